import Derived.Test.YtanighkpfmgnbaaGreatDoorProg
import Derived.Test.YtanighkpfmgnbaaGreatDoorUA2
import Derived.Test.YtanighkpfmgnbaaGreatDoorUB1
import Derived.Test.YtanighkpfmgnbaaGreatDoorUA3
import Derived.Test.YtanighkpfmgnbaaGreatDoorUB2
import Derived.Test.YtanighkpfmgnbaaGreatDoorUB3
import Derived.Test.YtanighkpfmgnbaaGreatDoorUB4
set_option linter.unusedVariables false
set_option linter.unusedSimpArgs false
set_option linter.unnecessarySimpa false
set_option maxRecDepth 100000
namespace Go.Proofs.YtanighkpfmgnbaaGreatDoor
open Go Go.Fen
theorem E2o:ApTy Tryz.prog 27 26 6 56:=⟨by kernel_rfl,by kernel_rfl,rfl⟩
theorem E6d:SlTy Tryz.prog 22 41 5:=⟨by kernel_rfl,by kernel_rfl⟩
theorem D8q:Ty Tryz.prog 38 1 false:=⟨by kernel_rfl⟩
theorem E7v:Ty Tryz.prog 39 1 false:=⟨by kernel_rfl⟩
theorem E7s:Ty Tryz.prog 41 5 true:=⟨by kernel_rfl⟩
theorem C0o {P:Program} {X:Cx} {E:Env} {L:Fen.Own} {Φ:List Pers} {o:Oper} {T e sz b:Nat} {x y:Operand} {len cap:Nat} {kd:IntKind} {m:Int} (hT:SlTy P T e sz) (ho:o.op=.indexAddr T x y)
  (hx:ev E x=some (.slice (some ⟨b,0,none⟩) len cap)) (hy:ev E y=some (.int kd m)) (k:Nat) (hk:m=k) (hl:k<len):G9 P X o E L Φ (.pointer (some ⟨b,k * sz,none⟩)):=.of_run fun ac w ha _=>by
 subst hk
 have h1:(0:Int)≤k∧(k:Int)<len:=by omega
 simp [execOp,ho,B8 ha hx,B8 ha hy,Instr.indexAt,asIntOf,run_underlying hT.ty,hT.run,h1,Nat.not_le.2 hl,A0d]
def A9l (d:Drf):Prop:=(0≤d.kind∧d.kind≤65535)∧(0≤d.n∧d.n≤65535)∧(0≤d.m∧d.m≤65535)∧(0≤d.rgb∧d.rgb≤4294967295)
def A0s (d:Drf) (t42:Bool):Act :=
 (bif t42 then (bif (decide ((d.m % 4)=1)) then {Act.zero with kind:=39,n:=(d.n % 7),color:=(⟨2,(d.rgb % 16777216)⟩:Col)} else (bif (decide ((d.m % 4)=2)) then {Act.zero with kind:=39,n:=(d.n % 7),color:=(⟨1,(d.rgb % 256)⟩:Col)} else (bif (decide ((d.m % 4)=3)) then {Act.zero with kind:=39,n:=(d.n % 7),color:=(⟨1,(d.rgb % 18)⟩:Col)} else {Act.zero with kind:=39,n:=(d.n % 7)}))) else {Act.zero with kind:=39,n:=(d.n % 7)})
def A3o (d:Drf):Act :=
 (bif (decide ((d.n % 7)=1)) then {Act.zero with kind:=39,n:=(d.n % 7),m:=((([4,8,16,32,64,128]:List Int)++([1,2]:List Int)).getD ((d.m % 8).toNat) 0)} else (bif (decide ((d.n % 7)=2)) then {Act.zero with kind:=39,n:=(d.n % 7),m:=((([4,8,16,32,64,128]:List Int)++([3]:List Int)).getD ((d.m % 7).toNat) 0)} else (bif (decide ((d.n % 7)=3)) then {Act.zero with kind:=39,n:=(d.n % 7),m:=(d.m % 6)} else (bif (decide ((d.n % 7)=4)) then A0s d (decide ((d.n % 7)=4)) else (bif (decide ((d.n % 7)=5)) then A0s d (decide ((d.n % 7)=5)) else A0s d (decide ((d.n % 7)=6)))))))
theorem D0d (d:Drf) (hd:A9l d) (R:Act) (hR:A3o d=R):I4 Tryz.prog 44 [ag (L5 d)] [] (ag (A4 R)):=by
 refine zco Tryz.func44 [(0,ag (L5 d))] fun X hX hr hD=>?_
 replace hR:=(A3o.eq_1 ..).symm.trans hR
 have hdi:=hd;unfold A9l at hdi
 have hl8:(([4,8,16,32,64,128]:List Int)++([1,2]:List Int)).length=8:=rfl
 have hl7:(([4,8,16,32,64,128]:List Int)++([3]:List Int)).length=7:=rfl
 refine sr 2 rfl (C7i 2 0 [] (fun b1 b2=>[(1,pt b1 0),(2,pt b2 0)]) (fun b1 b2=>[bx b2 (A4 Act.zero) 26,bx b1 (L5 d) 41]) (fun b1 b2=>?_))
 refine ie (sr 7 rfl (zrl 2 5 [1] [(6,.int .u16 d.n)] ?_))
 refine ix rfl (V3 (c:=(d.n % 7)) rfl rfl rfl (by decide) (by omega)) ?_
 refine ix rfl (N8 (c:=(d.n % 7)) Tryz.underlying3 (by kernel_rfl) rfl rfl (P1 (by first|(simp [IntKind.min,IntKind.signed,IntKind.bits];omega)|(simp [IntKind.max,IntKind.signed,IntKind.bits];omega)) (by first|(simp [IntKind.min,IntKind.signed,IntKind.bits];omega)|(simp [IntKind.max,IntKind.signed,IntKind.bits];omega)))) ?_
 refine Q2 3 0 [0] (fun b3=>[(3,pt b3 0)]) (fun b3=>[bx b3 (A4 ({Act.zero with kind:=39,n:=(d.n % 7)})) 26,bx b2 (A4 Act.zero) 26,bx b1 (L5 d) 41]) (fun b3=>?_)
 refine ie (sr 3 rfl (Q2 3 0 [0] (fun b4=>[(4,pt b4 0)]) (fun b4=>[bx b4 [iv 4,iv 8,iv 16,iv 32,iv 64,iv 128] 147,bx b3 (A4 ({Act.zero with kind:=39,n:=(d.n % 7)})) 26,bx b2 (A4 Act.zero) 26,bx b1 (L5 d) 41]) (fun b4=>?_)))
 refine ie (A8 (sr 2 rfl (zrl 2 0 [1] [(12,iv (d.n % 7))] ?_)))
 refine ie (B3 (sr 2 rfl (ip' 2 0 [(13,bv (decide ((d.n % 7)=1)))] ?_)))
 refine ie ?_
 refine zjd rfl hR ?_ ?_<;>clear hR<;>intro hR h5 h5p
 ·refine E2t 0 rfl ?_
  refine B2g (show X2 _ (sl F0 (some ⟨b4,0,none⟩) ([4,8,16,32,64,128]:List Int)) from B1 0 rfl) ?_
  refine sh' 10 [(9,[bx b3 (A4 ({Act.zero with kind:=39,n:=(d.n % 7)})) 26]),(10,[bx b2 (A4 Act.zero) 26]),(10,[bx b1 (L5 d) 41])] [sl F0 (some ⟨b4,0,none⟩) ([4,8,16,32,64,128]:List Int),at_ ⟨b4,0,none⟩ [iv 4,iv 8,iv 16,iv 32,iv 64,iv 128]] [bx b3 (A4 ({Act.zero with kind:=39,n:=(d.n % 7)})) 26,bx b2 (A4 Act.zero) 26,bx b1 (L5 d) 41] (zml 10 0) (by kernel_rfl) rfl (by kernel_rfl) (by kernel_rfl) (by kernel_rfl) (mk [true,true,true] rfl) A1.refl ?_
  refine zhp [3] 9 (zml 10 8) [(18,pt b1 2)] ?_
  refine zhk 0 (zml 10 9) rfl (B2q Tryz.underlying147 ty3 rfl rfl) ?_
  have:([4,8,16,32,64,128]:List Int).length=6:=rfl
  refine zhl 4 [bx b3 (A4 ({Act.zero with kind:=39,n:=(d.n % 7)})) 26,bx b2 (A4 Act.zero) 26,bx b1 (L5 d) 41] (zml 10 25) rfl (B4 (v:=.int .u16 d.m) D8q rfl rfl 2 rfl rfl) ?_
  refine zhk 5 (zml 10 57) rfl (V3 (c:=(d.m % 8)) rfl rfl rfl (by decide) (by omega)) ?_
  refine zho 1 [bx b3 (A4 ({Act.zero with kind:=39,n:=(d.n % 7)})) 26,bx b2 (A4 Act.zero) 26,bx b1 (L5 d) 41] (zml 10 59) rfl (B6 (c:=F0) (xs:=([1,2]:List Int)) H6 rfl rfl rfl (by kernel_rfl)) (fun b6=>(mk [true,true,true] rfl)) (fun b6=>(A1.pick [1,2] rfl)) fun b6=>?_
  have:([1,2]:List Int).length=2:=rfl
  refine zho 2 [bx b3 (A4 ({Act.zero with kind:=39,n:=(d.n % 7)})) 26,bx b2 (A4 Act.zero) 26,bx b1 (L5 d) 41] (zml 10 63) rfl (C3m (f:=F0) (xs:=([4,8,16,32,64,128]:List Int)) (ys:=([1,2]:List Int)) B6g (fun _=>rfl) (fun _=>rfl) rfl rfl rfl rfl rfl rfl (by omega) (by omega) (by rfl) (B1 1 rfl) (B1 0 rfl) (by simp) (by first|omega|(simp<;>omega)) (by first|omega|(simp<;>omega))) (fun ⟨r7,hr8⟩=>(mc [[bx b3 (A4 ({Act.zero with kind:=39,n:=(d.n % 7)})) 26],[bx b2 (A4 Act.zero) 26],[bx b1 (L5 d) 41],vo F0 3 r7 (([4,8,16,32,64,128]:List Int)++([1,2]:List Int))] [true,true,true,false] rfl (by first|rfl|(simp only [List.length_set]<;>rfl)))) (fun ⟨r7,hr8⟩=>(A1.pick [1,2] rfl)) fun ⟨r7,hr8⟩=>?_
  have:=VOk.le hr8
  have:=VOk.cap hr8
  obtain ⟨b9,hb10⟩:=VOk.some hr8 (by omega)
  obtain ⟨q11,k12,j13⟩:=r7
  obtain rfl:q11=some b9:=hb10
  refine zhl 6 [bx b3 (A4 ({Act.zero with kind:=39,n:=(d.n % 7)})) 26,bx b2 (A4 Act.zero) 26,bx b1 (L5 d) 41] (zml 10 127) rfl (C0o H6 rfl rfl rfl ((d.m % 8).toNat) (by omega) (by omega)) ?_
  refine zho 7 [bx b3 (A4 ({Act.zero with kind:=39,n:=(d.n % 7)})) 26,bx b2 (A4 Act.zero) 26,bx b1 (L5 d) 41] (zml 10 255) rfl (Det.tri (G9.det (N6 (u:=iv ((([4,8,16,32,64,128]:List Int)++([1,2]:List Int)).getD ((d.m % 8).toNat) 0)) (c:=F0) (sz:=1) ty3 (fun _=>rfl) rfl rfl 3 rfl ((d.m % 8).toNat) 0 rfl (gd 0 (by omega)) rfl))) (fun _=>(mc [[bx b3 (A4 ({Act.zero with kind:=39,n:=(d.n % 7)})) 26],[bx b2 (A4 Act.zero) 26],[bx b1 (L5 d) 41],vo F0 3 (⟨some b9,k12,j13⟩:VR) (([4,8,16,32,64,128]:List Int)++([1,2]:List Int))] [true,true,true,false] rfl (by first|rfl|(simp only [List.length_set]<;>rfl)))) (fun _=>(A1.pick [1,2] rfl)) fun _=>?_
  refine zhp [8] 1 (zml 10 511) [(23,pt b3 2)] ?_
  refine zho 9 [bx b2 (A4 Act.zero) 26,bx b1 (L5 d) 41] (zml 10 1023) rfl (O4 (us:=[iv ((([4,8,16,32,64,128]:List Int)++([1,2]:List Int)).getD ((d.m % 8).toNat) 0)]) (cs':=A4 ({Act.zero with kind:=39,n:=(d.n % 7),m:=((([4,8,16,32,64,128]:List Int)++([1,2]:List Int)).getD ((d.m % 8).toNat) 0)})) ty3 rfl rfl rfl 0 rfl rfl rfl rfl rfl rfl) (fun _=>(mc [[bx b3 (A4 ({Act.zero with kind:=39,n:=(d.n % 7),m:=((([4,8,16,32,64,128]:List Int)++([1,2]:List Int)).getD ((d.m % 8).toNat) 0)})) 26],[bx b2 (A4 Act.zero) 26],[bx b1 (L5 d) 41],vo F0 3 (⟨some b9,k12,j13⟩:VR) (([4,8,16,32,64,128]:List Int)++([1,2]:List Int))] [false,true,true,false] rfl (by first|rfl|(simp only [List.length_set]<;>rfl)))) (fun _=>(A1.pick [1,2] rfl)) fun _=>?_
  refine B4w (by kernel_rfl) ?_
  refine nx (sr 2 rfl (zrg 2 0 [0,1] [] (bx b3 (A4 ({Act.zero with kind:=39,n:=(d.n % 7),m:=((([4,8,16,32,64,128]:List Int)++([1,2]:List Int)).getD ((d.m % 8).toNat) 0)})) 26::bx b2 (A4 ({Act.zero with kind:=39,n:=(d.n % 7),m:=((([4,8,16,32,64,128]:List Int)++([1,2]:List Int)).getD ((d.m % 8).toNat) 0)})) 26::bx b1 (L5 d) 41::(vo F0 3 (⟨some b9,k12,j13⟩:VR) (([4,8,16,32,64,128]:List Int)++([1,2]:List Int)))++([])) ?_))
  subst hR
  refine ie (A9 ?_)
  exact zer hr hD (N4 rfl (F1 (us:=A4 ({Act.zero with kind:=39,n:=(d.n % 7),m:=((([4,8,16,32,64,128]:List Int)++([1,2]:List Int)).getD ((d.m % 8).toNat) 0)})) A3l rfl 1 rfl rfl rfl)) () (List.nil_sublist _) fn0
 refine sr 2 rfl (ip' 2 0 [(24,bv (decide ((d.n % 7)=2)))] ?_)
 refine ie ?_
 refine zjd rfl hR ?_ ?_<;>clear hR<;>intro hR h14 h14p
 ·refine E2t 0 rfl ?_
  refine B2g (show X2 _ (sl F0 (some ⟨b4,0,none⟩) ([4,8,16,32,64,128]:List Int)) from B1 0 rfl) ?_
  refine sh' 10 [(9,[bx b3 (A4 ({Act.zero with kind:=39,n:=(d.n % 7)})) 26]),(10,[bx b2 (A4 Act.zero) 26]),(10,[bx b1 (L5 d) 41])] [sl F0 (some ⟨b4,0,none⟩) ([4,8,16,32,64,128]:List Int),at_ ⟨b4,0,none⟩ [iv 4,iv 8,iv 16,iv 32,iv 64,iv 128]] [bx b3 (A4 ({Act.zero with kind:=39,n:=(d.n % 7)})) 26,bx b2 (A4 Act.zero) 26,bx b1 (L5 d) 41] (zml 10 0) (by kernel_rfl) rfl (by kernel_rfl) (by kernel_rfl) (by kernel_rfl) (mk [true,true,true] rfl) A1.refl ?_
  refine zhp [3] 9 (zml 10 8) [(29,pt b1 2)] ?_
  refine zhk 0 (zml 10 9) rfl (B2q Tryz.underlying147 ty3 rfl rfl) ?_
  have:([4,8,16,32,64,128]:List Int).length=6:=rfl
  refine zhl 4 [bx b3 (A4 ({Act.zero with kind:=39,n:=(d.n % 7)})) 26,bx b2 (A4 Act.zero) 26,bx b1 (L5 d) 41] (zml 10 25) rfl (B4 (v:=.int .u16 d.m) D8q rfl rfl 2 rfl rfl) ?_
  refine zhk 5 (zml 10 57) rfl (V3 (c:=(d.m % 7)) rfl rfl rfl (by decide) (by omega)) ?_
  refine zho 1 [bx b3 (A4 ({Act.zero with kind:=39,n:=(d.n % 7)})) 26,bx b2 (A4 Act.zero) 26,bx b1 (L5 d) 41] (zml 10 59) rfl (B6 (c:=F0) (xs:=([3]:List Int)) H6 rfl rfl rfl (by kernel_rfl)) (fun b15=>(mk [true,true,true] rfl)) (fun b15=>(A1.pick [1,2] rfl)) fun b15=>?_
  have:([3]:List Int).length=1:=rfl
  refine zho 2 [bx b3 (A4 ({Act.zero with kind:=39,n:=(d.n % 7)})) 26,bx b2 (A4 Act.zero) 26,bx b1 (L5 d) 41] (zml 10 63) rfl (C3m (f:=F0) (xs:=([4,8,16,32,64,128]:List Int)) (ys:=([3]:List Int)) B6g (fun _=>rfl) (fun _=>rfl) rfl rfl rfl rfl rfl rfl (by omega) (by omega) (by rfl) (B1 1 rfl) (B1 0 rfl) (by simp) (by first|omega|(simp<;>omega)) (by first|omega|(simp<;>omega))) (fun ⟨r16,hr17⟩=>(mc [[bx b3 (A4 ({Act.zero with kind:=39,n:=(d.n % 7)})) 26],[bx b2 (A4 Act.zero) 26],[bx b1 (L5 d) 41],vo F0 3 r16 (([4,8,16,32,64,128]:List Int)++([3]:List Int))] [true,true,true,false] rfl (by first|rfl|(simp only [List.length_set]<;>rfl)))) (fun ⟨r16,hr17⟩=>(A1.pick [1,2] rfl)) fun ⟨r16,hr17⟩=>?_
  have:=VOk.le hr17
  have:=VOk.cap hr17
  obtain ⟨b18,hb19⟩:=VOk.some hr17 (by omega)
  obtain ⟨q20,k21,j22⟩:=r16
  obtain rfl:q20=some b18:=hb19
  refine zhl 6 [bx b3 (A4 ({Act.zero with kind:=39,n:=(d.n % 7)})) 26,bx b2 (A4 Act.zero) 26,bx b1 (L5 d) 41] (zml 10 127) rfl (C0o H6 rfl rfl rfl ((d.m % 7).toNat) (by omega) (by omega)) ?_
  refine zho 7 [bx b3 (A4 ({Act.zero with kind:=39,n:=(d.n % 7)})) 26,bx b2 (A4 Act.zero) 26,bx b1 (L5 d) 41] (zml 10 255) rfl (Det.tri (G9.det (N6 (u:=iv ((([4,8,16,32,64,128]:List Int)++([3]:List Int)).getD ((d.m % 7).toNat) 0)) (c:=F0) (sz:=1) ty3 (fun _=>rfl) rfl rfl 3 rfl ((d.m % 7).toNat) 0 rfl (gd 0 (by omega)) rfl))) (fun _=>(mc [[bx b3 (A4 ({Act.zero with kind:=39,n:=(d.n % 7)})) 26],[bx b2 (A4 Act.zero) 26],[bx b1 (L5 d) 41],vo F0 3 (⟨some b18,k21,j22⟩:VR) (([4,8,16,32,64,128]:List Int)++([3]:List Int))] [true,true,true,false] rfl (by first|rfl|(simp only [List.length_set]<;>rfl)))) (fun _=>(A1.pick [1,2] rfl)) fun _=>?_
  refine zhp [8] 1 (zml 10 511) [(34,pt b3 2)] ?_
  refine zho 9 [bx b2 (A4 Act.zero) 26,bx b1 (L5 d) 41] (zml 10 1023) rfl (O4 (us:=[iv ((([4,8,16,32,64,128]:List Int)++([3]:List Int)).getD ((d.m % 7).toNat) 0)]) (cs':=A4 ({Act.zero with kind:=39,n:=(d.n % 7),m:=((([4,8,16,32,64,128]:List Int)++([3]:List Int)).getD ((d.m % 7).toNat) 0)})) ty3 rfl rfl rfl 0 rfl rfl rfl rfl rfl rfl) (fun _=>(mc [[bx b3 (A4 ({Act.zero with kind:=39,n:=(d.n % 7),m:=((([4,8,16,32,64,128]:List Int)++([3]:List Int)).getD ((d.m % 7).toNat) 0)})) 26],[bx b2 (A4 Act.zero) 26],[bx b1 (L5 d) 41],vo F0 3 (⟨some b18,k21,j22⟩:VR) (([4,8,16,32,64,128]:List Int)++([3]:List Int))] [false,true,true,false] rfl (by first|rfl|(simp only [List.length_set]<;>rfl)))) (fun _=>(A1.pick [1,2] rfl)) fun _=>?_
  refine B4w (by kernel_rfl) ?_
  refine nx (sr 2 rfl (zrg 2 0 [0,1] [] (bx b3 (A4 ({Act.zero with kind:=39,n:=(d.n % 7),m:=((([4,8,16,32,64,128]:List Int)++([3]:List Int)).getD ((d.m % 7).toNat) 0)})) 26::bx b2 (A4 ({Act.zero with kind:=39,n:=(d.n % 7),m:=((([4,8,16,32,64,128]:List Int)++([3]:List Int)).getD ((d.m % 7).toNat) 0)})) 26::bx b1 (L5 d) 41::(vo F0 3 (⟨some b18,k21,j22⟩:VR) (([4,8,16,32,64,128]:List Int)++([3]:List Int)))++([])) ?_))
  subst hR
  refine ie (A9 ?_)
  exact zer hr hD (N4 rfl (F1 (us:=A4 ({Act.zero with kind:=39,n:=(d.n % 7),m:=((([4,8,16,32,64,128]:List Int)++([3]:List Int)).getD ((d.m % 7).toNat) 0)})) A3l rfl 1 rfl rfl rfl)) () (List.nil_sublist _) fn0
 refine sr 2 rfl (ip' 2 0 [(35,bv (decide ((d.n % 7)=3)))] ?_)
 refine ie ?_
 refine zjd rfl hR ?_ ?_<;>clear hR<;>intro hR h23 h23p
 ·refine A2 6 rfl (zrl 2 4 [3] [(38,.int .u16 d.m)] ?_)
  refine ix rfl (V3 (c:=(d.m % 6)) rfl rfl rfl (by decide) (by omega)) ?_
  refine ix rfl (N8 (c:=(d.m % 6)) Tryz.underlying3 (by kernel_rfl) rfl rfl (P1 (by first|(simp [IntKind.min,IntKind.signed,IntKind.bits];omega)|(simp [IntKind.max,IntKind.signed,IntKind.bits];omega)) (by first|(simp [IntKind.min,IntKind.signed,IntKind.bits];omega)|(simp [IntKind.max,IntKind.signed,IntKind.bits];omega)))) ?_
  refine zrg 2 0 [1] [] [bx b4 [iv 4,iv 8,iv 16,iv 32,iv 64,iv 128] 147,bx b3 (A4 ({Act.zero with kind:=39,n:=(d.n % 7),m:=(d.m % 6)})) 26,bx b2 (A4 Act.zero) 26,bx b1 (L5 d) 41] ?_
  refine A3 (nx (sr 2 rfl (zrg 2 0 [1,2] [] [bx b4 [iv 4,iv 8,iv 16,iv 32,iv 64,iv 128] 147,bx b3 (A4 ({Act.zero with kind:=39,n:=(d.n % 7),m:=(d.m % 6)})) 26,bx b2 (A4 ({Act.zero with kind:=39,n:=(d.n % 7),m:=(d.m % 6)})) 26,bx b1 (L5 d) 41] ?_)))
  subst hR
  refine ie (A9 ?_)
  exact zer hr hD (N4 rfl (F1 (us:=A4 ({Act.zero with kind:=39,n:=(d.n % 7),m:=(d.m % 6)})) A3l rfl 2 rfl rfl rfl)) () (mk [false,false,false,false] rfl) fn0
 refine B8f (fun (t42:Bool)=>(A0s d t42=R,[(1,pt b1 0),(2,pt b2 0),(3,pt b3 0),(42,bv t42)],[bx b4 [iv 4,iv 8,iv 16,iv 32,iv 64,iv 128] 147,bx b3 (A4 ({Act.zero with kind:=39,n:=(d.n % 7)})) 26,bx b2 (A4 Act.zero) 26,bx b1 (L5 d) 41],[])) ?_ ?_
 ·refine sr 2 rfl (ip' 2 0 [(42,bv (decide ((d.n % 7)=4)))] ?_)
  refine ie ?_
  refine zjd rfl hR ?_ ?_<;>clear hR<;>intro hR h24 h24p
  ·refine A6 ?_
   exact V6 (decide ((d.n % 7)=4)) hR (mk [true,true,true,true] rfl) fn0
  refine sr 2 rfl (ip' 2 0 [(42,bv (decide ((d.n % 7)=5)))] ?_)
  refine ie ?_
  refine zjd rfl hR ?_ ?_<;>clear hR<;>intro hR h25 h25p
  ·refine A6 ?_
   exact V6 (decide ((d.n % 7)=5)) hR (mk [true,true,true,true] rfl) fn0
  refine A2 2 rfl (ip' 2 0 [(42,bv (decide ((d.n % 7)=6)))] ?_)
  refine A3 ?_
  exact V6 (decide ((d.n % 7)=6)) hR (mk [true,true,true,true] rfl) fn0
 intro t42
 rintro hR
 replace hR:=(A0s.eq_1 ..).symm.trans hR
 refine zjb rfl hR ?_ ?_<;>clear hR<;>intro hR h26
 ·refine sr 3 rfl (zrl 2 1 [3] [(47,.int .u16 d.m)] ?_)
  refine ix rfl (V3 (c:=(d.m % 4)) rfl rfl rfl (by decide) (by omega)) ?_
  refine ie (B3 (sr 2 rfl (ip' 2 0 [(49,bv (decide ((d.m % 4)=1)))] ?_)))
  refine ie ?_
  refine zjd rfl hR ?_ ?_<;>clear hR<;>intro hR h27 h27p
  ·refine A2 7 rfl (zrl 2 5 [3] [(52,.int .u32 d.rgb)] ?_)
   refine ix rfl (V3 (c:=(d.rgb % 16777216)) rfl rfl rfl (by decide) (by omega)) ?_
   refine ix rfl (N8 (c:=(d.rgb % 16777216)) Tryz.underlying3 (by kernel_rfl) rfl rfl (P1 (by first|(simp [IntKind.min,IntKind.signed,IntKind.bits];omega)|(simp [IntKind.max,IntKind.signed,IntKind.bits];omega)) (by first|(simp [IntKind.min,IntKind.signed,IntKind.bits];omega)|(simp [IntKind.max,IntKind.signed,IntKind.bits];omega)))) ?_
   refine zrg 3 0 [1] [] [bx b4 [iv 4,iv 8,iv 16,iv 32,iv 64,iv 128] 147,bx b3 (A4 ({Act.zero with kind:=39,n:=(d.n % 7),color:=(⟨2,(d.rgb % 16777216)⟩:Col)})) 26,bx b2 (A4 Act.zero) 26,bx b1 (L5 d) 41] ?_
   refine A3 (nx (sr 2 rfl (zrg 2 0 [1,2] [] [bx b4 [iv 4,iv 8,iv 16,iv 32,iv 64,iv 128] 147,bx b3 (A4 ({Act.zero with kind:=39,n:=(d.n % 7),color:=(⟨2,(d.rgb % 16777216)⟩:Col)})) 26,bx b2 (A4 ({Act.zero with kind:=39,n:=(d.n % 7),color:=(⟨2,(d.rgb % 16777216)⟩:Col)})) 26,bx b1 (L5 d) 41] ?_)))
   subst hR
   refine ie (A9 ?_)
   exact zer hr hD (N4 rfl (F1 (us:=A4 ({Act.zero with kind:=39,n:=(d.n % 7),color:=(⟨2,(d.rgb % 16777216)⟩:Col)})) A3l rfl 2 rfl rfl rfl)) () (mk [false,false,false,false] rfl) fn0
  refine sr 2 rfl (ip' 2 0 [(57,bv (decide ((d.m % 4)=2)))] ?_)
  refine ie ?_
  refine zjd rfl hR ?_ ?_<;>clear hR<;>intro hR h28 h28p
  ·refine A2 7 rfl (zrl 2 5 [3] [(60,.int .u32 d.rgb)] ?_)
   refine ix rfl (V3 (c:=(d.rgb % 256)) rfl rfl rfl (by decide) (by omega)) ?_
   refine ix rfl (N8 (c:=(d.rgb % 256)) Tryz.underlying3 (by kernel_rfl) rfl rfl (P1 (by first|(simp [IntKind.min,IntKind.signed,IntKind.bits];omega)|(simp [IntKind.max,IntKind.signed,IntKind.bits];omega)) (by first|(simp [IntKind.min,IntKind.signed,IntKind.bits];omega)|(simp [IntKind.max,IntKind.signed,IntKind.bits];omega)))) ?_
   refine zrg 3 0 [1] [] [bx b4 [iv 4,iv 8,iv 16,iv 32,iv 64,iv 128] 147,bx b3 (A4 ({Act.zero with kind:=39,n:=(d.n % 7),color:=(⟨1,(d.rgb % 256)⟩:Col)})) 26,bx b2 (A4 Act.zero) 26,bx b1 (L5 d) 41] ?_
   refine A3 (nx (sr 2 rfl (zrg 2 0 [1,2] [] [bx b4 [iv 4,iv 8,iv 16,iv 32,iv 64,iv 128] 147,bx b3 (A4 ({Act.zero with kind:=39,n:=(d.n % 7),color:=(⟨1,(d.rgb % 256)⟩:Col)})) 26,bx b2 (A4 ({Act.zero with kind:=39,n:=(d.n % 7),color:=(⟨1,(d.rgb % 256)⟩:Col)})) 26,bx b1 (L5 d) 41] ?_)))
   subst hR
   refine ie (A9 ?_)
   exact zer hr hD (N4 rfl (F1 (us:=A4 ({Act.zero with kind:=39,n:=(d.n % 7),color:=(⟨1,(d.rgb % 256)⟩:Col)})) A3l rfl 2 rfl rfl rfl)) () (mk [false,false,false,false] rfl) fn0
  refine sr 2 rfl (ip' 2 0 [(65,bv (decide ((d.m % 4)=3)))] ?_)
  refine ie ?_
  refine zjd rfl hR ?_ ?_<;>clear hR<;>intro hR h29 h29p
  ·refine A2 7 rfl (zrl 2 5 [3] [(68,.int .u32 d.rgb)] ?_)
   refine ix rfl (V3 (c:=(d.rgb % 18)) rfl rfl rfl (by decide) (by omega)) ?_
   refine ix rfl (N8 (c:=(d.rgb % 18)) Tryz.underlying3 (by kernel_rfl) rfl rfl (P1 (by first|(simp [IntKind.min,IntKind.signed,IntKind.bits];omega)|(simp [IntKind.max,IntKind.signed,IntKind.bits];omega)) (by first|(simp [IntKind.min,IntKind.signed,IntKind.bits];omega)|(simp [IntKind.max,IntKind.signed,IntKind.bits];omega)))) ?_
   refine zrg 3 0 [1] [] [bx b4 [iv 4,iv 8,iv 16,iv 32,iv 64,iv 128] 147,bx b3 (A4 ({Act.zero with kind:=39,n:=(d.n % 7),color:=(⟨1,(d.rgb % 18)⟩:Col)})) 26,bx b2 (A4 Act.zero) 26,bx b1 (L5 d) 41] ?_
   refine A3 (nx (sr 2 rfl (zrg 2 0 [1,2] [] [bx b4 [iv 4,iv 8,iv 16,iv 32,iv 64,iv 128] 147,bx b3 (A4 ({Act.zero with kind:=39,n:=(d.n % 7),color:=(⟨1,(d.rgb % 18)⟩:Col)})) 26,bx b2 (A4 ({Act.zero with kind:=39,n:=(d.n % 7),color:=(⟨1,(d.rgb % 18)⟩:Col)})) 26,bx b1 (L5 d) 41] ?_)))
   subst hR
   refine ie (A9 ?_)
   exact zer hr hD (N4 rfl (F1 (us:=A4 ({Act.zero with kind:=39,n:=(d.n % 7),color:=(⟨1,(d.rgb % 18)⟩:Col)})) A3l rfl 2 rfl rfl rfl)) () (mk [false,false,false,false] rfl) fn0
  refine A6 (nx (sr 2 rfl (zrg 2 0 [1,2] [] [bx b4 [iv 4,iv 8,iv 16,iv 32,iv 64,iv 128] 147,bx b3 (A4 ({Act.zero with kind:=39,n:=(d.n % 7)})) 26,bx b2 (A4 ({Act.zero with kind:=39,n:=(d.n % 7)})) 26,bx b1 (L5 d) 41] ?_)))
  subst hR
  refine ie (A9 ?_)
  exact zer hr hD (N4 rfl (F1 (us:=A4 ({Act.zero with kind:=39,n:=(d.n % 7)})) A3l rfl 2 rfl rfl rfl)) () (mk [false,false,false,false] rfl) fn0
 refine A6 (nx (sr 2 rfl (zrg 2 0 [1,2] [] [bx b4 [iv 4,iv 8,iv 16,iv 32,iv 64,iv 128] 147,bx b3 (A4 ({Act.zero with kind:=39,n:=(d.n % 7)})) 26,bx b2 (A4 ({Act.zero with kind:=39,n:=(d.n % 7)})) 26,bx b1 (L5 d) 41] ?_)))
 subst hR
 refine ie (A9 ?_)
 exact zer hr hD (N4 rfl (F1 (us:=A4 ({Act.zero with kind:=39,n:=(d.n % 7)})) A3l rfl 2 rfl rfl rfl)) () (mk [false,false,false,false] rfl) fn0
def M5 (d:Drf) (i:Nat) (k:Nat) (ag_ref10_Draft_Action_l11:Nat→Act):Nat→Nat→Act
 | 0,_=>Act.zero
 | fu5+1,by_=>(bif (decide ((by_:Int)<5)) then (bif (C8 ({Act.zero with kind:=(IntKind.i64.wrap ((1:Int)+(d.kind % 46))),n:=(IntKind.i64.wrap ((Int.tmod d.n (([65536,10000,7,4,2]:List Int).getD i 0))+(by_:Int))),m:=(Int.tmod d.m (([65536,10000,7,4,2]:List Int).getD k 0))})) then {Act.zero with kind:=(IntKind.i64.wrap ((1:Int)+(d.kind % 46))),n:=(IntKind.i64.wrap ((Int.tmod d.n (([65536,10000,7,4,2]:List Int).getD i 0))+(by_:Int))),m:=(Int.tmod d.m (([65536,10000,7,4,2]:List Int).getD k 0))} else (bif (C8 ({Act.zero with kind:=(IntKind.i64.wrap ((1:Int)+(d.kind % 46))),n:=(IntKind.i64.wrap ((Int.tmod d.n (([65536,10000,7,4,2]:List Int).getD i 0))+(by_:Int))),m:=(IntKind.i64.wrap ((Int.tmod d.m (([65536,10000,7,4,2]:List Int).getD k 0))+(1:Int)))})) then {Act.zero with kind:=(IntKind.i64.wrap ((1:Int)+(d.kind % 46))),n:=(IntKind.i64.wrap ((Int.tmod d.n (([65536,10000,7,4,2]:List Int).getD i 0))+(by_:Int))),m:=(IntKind.i64.wrap ((Int.tmod d.m (([65536,10000,7,4,2]:List Int).getD k 0))+(1:Int)))} else (bif (C8 ({Act.zero with kind:=(IntKind.i64.wrap ((1:Int)+(d.kind % 46))),n:=(IntKind.i64.wrap ((Int.tmod d.n (([65536,10000,7,4,2]:List Int).getD i 0))+(by_:Int))),m:=0})) then {Act.zero with kind:=(IntKind.i64.wrap ((1:Int)+(d.kind % 46))),n:=(IntKind.i64.wrap ((Int.tmod d.n (([65536,10000,7,4,2]:List Int).getD i 0))+(by_:Int))),m:=0} else M5 d i k ag_ref10_Draft_Action_l11 fu5 (by_+1)))) else ag_ref10_Draft_Action_l11 (k+1))
def K4 (d:Drf) (i:Nat) (ag_ref10_Draft_Action_l8:Nat→Act):Nat→Nat→Act
 | 0,_=>Act.zero
 | fu3+1,k=>(bif (decide ((k:Int)<5)) then M5 d i k (K4 d i ag_ref10_Draft_Action_l8 fu3) ((5 - 0)+1) 0 else ag_ref10_Draft_Action_l8 (i+1))
def J8 (d:Drf):Nat→Nat→Act
 | 0,_=>Act.zero
 | fu1+1,i=>(bif (decide ((i:Int)<5)) then K4 d i (J8 d fu1) ((5 - 0)+1) 0 else {Act.zero with kind:=2})
def I6 (d:Drf):Act :=
 (bif ((decide ((IntKind.i64.wrap ((1:Int)+(d.kind % 46)))=44))||(decide ((IntKind.i64.wrap ((1:Int)+(d.kind % 46)))=46))) then (bif (!(C8 ({Act.zero with kind:=(IntKind.i64.wrap ((1:Int)+(d.kind % 46))),text:=(d.text.take ((if (300:Int)<(d.text.length:Int) then (300:Int) else (d.text.length:Int)).toNat))}))) then {Act.zero with kind:=(IntKind.i64.wrap ((1:Int)+(d.kind % 46))),text:=([116]:List UInt8)} else {Act.zero with kind:=(IntKind.i64.wrap ((1:Int)+(d.kind % 46))),text:=(d.text.take ((if (300:Int)<(d.text.length:Int) then (300:Int) else (d.text.length:Int)).toNat))}) else (bif (decide ((IntKind.i64.wrap ((1:Int)+(d.kind % 46)))=45)) then {Act.zero with kind:=(IntKind.i64.wrap ((1:Int)+(d.kind % 46))),n:=(d.n % 256),color:=(⟨2,(d.rgb % 16777216)⟩:Col)} else (bif (decide ((IntKind.i64.wrap ((1:Int)+(d.kind % 46)))=39)) then (A3o d) else J8 d ((5 - 0)+1) 0)))
theorem C3h (d:Drf):(A3o d).text=[]:=by
 unfold A3o A0s
 simp only [Bool.cond_eq_ite]
 repeat' split
 all_goals rfl
theorem A2q (d:Drf) (i k:Nat) (ag:Nat→Act) (hag:∀ x,(ag x).text=[]):∀ (fu b:Nat),(M5 d i k ag fu b).text=[]
 | 0,_=>rfl
 | fu+1,b=>by
  have ih:=A2q d i k ag hag fu (b+1)
  rw [M5]
  simp only [Bool.cond_eq_ite]
  repeat' split
  all_goals first|rfl|exact ih|exact hag _
theorem A2o (d:Drf) (i:Nat) (ag:Nat→Act) (hag:∀ x,(ag x).text=[]):∀ (fu k:Nat),(K4 d i ag fu k).text=[]
 | 0,_=>rfl
 | fu+1,k=>by
  rw [K4]
  simp only [Bool.cond_eq_ite]
  split
  ·exact A2q d i k _ (fun x=>A2o d i ag hag fu x) _ _
  ·exact hag _
theorem A2v (d:Drf):∀ (fu i:Nat),(J8 d fu i).text=[]
 | 0,_=>rfl
 | fu+1,i=>by
  rw [J8]
  simp only [Bool.cond_eq_ite]
  split
  ·exact A2o d i _ (fun x=>A2v d fu x) _ _
  ·rfl
theorem A4s (d:Drf):(I6 d).text.length≤300:=by
 have h8:=A2v d ((5 - 0)+1) 0
 have hp:=C3h d
 unfold I6
 simp only [Bool.cond_eq_ite]
 repeat' split
 all_goals first|(rw [h8];exact Nat.zero_le _)|(rw [hp];exact Nat.zero_le _)|exact Nat.zero_le _|(show ([116]:List UInt8).length≤300;decide)|(show (List.take _ _).length≤300;rw [List.length_take];split<;>omega)|(show (List.take _ _).length≤300;rw [List.length_take];omega)
theorem B3t (d:Drf) (hd:A9l d) (R:Act) (hR:I6 d=R):I4 Tryz.prog 19 [ag (L5 d)] [] (ag (A4 R)):=by
 refine zco Tryz.func19 [(0,ag (L5 d))] fun X hX hr hD=>?_
 replace hR:=(I6.eq_1 ..).symm.trans hR
 have hdi:=hd;unfold A9l at hdi
 refine sr 2 rfl (C7i 2 0 [] (fun b1 b2=>[(1,pt b1 0),(2,pt b2 0)]) (fun b1 b2=>[bx b2 (A4 Act.zero) 26,bx b1 (L5 d) 41]) (fun b1 b2=>?_))
 refine ie (sr 8 rfl (zrl 2 6 [1] [(10,.int .u16 d.kind)] ?_))
 refine ix rfl (V3 (c:=(d.kind % 46)) rfl rfl rfl (by decide) (by omega)) ?_
 refine ix rfl (N8 (c:=(d.kind % 46)) Tryz.underlying3 (by kernel_rfl) rfl rfl (P1 (by first|(simp [IntKind.min,IntKind.signed,IntKind.bits];omega)|(simp [IntKind.max,IntKind.signed,IntKind.bits];omega)) (by first|(simp [IntKind.min,IntKind.signed,IntKind.bits];omega)|(simp [IntKind.max,IntKind.signed,IntKind.bits];omega)))) ?_
 refine ix rfl (G9.pure rfl) ?_
 refine Q2 3 0 [0] (fun b3=>[(3,pt b3 0)]) (fun b3=>[bx b3 (A4 ({Act.zero with kind:=(IntKind.i64.wrap ((1:Int)+(d.kind % 46)))})) 26,bx b2 (A4 Act.zero) 26,bx b1 (L5 d) 41]) (fun b3=>?_)
 refine ie (A8 (sr 8 rfl (zrl 4 4 [0] [(18,bv (decide ((IntKind.i64.wrap ((1:Int)+(d.kind % 46)))=44)))] ?_)))
 refine zir 4 0 18 22 (decide ((IntKind.i64.wrap ((1:Int)+(d.kind % 46)))=46)) (fun g4 g4p=>?_) ?_
 ·refine zrl 4 0 [0] [(22,bv (decide ((IntKind.i64.wrap ((1:Int)+(d.kind % 46)))=46)))] ?_
  exact A3 (L6 2 18 22 g4 fn0 (mk [true,true,true] rfl) rfl rfl rfl rfl rfl)
 refine ie ?_
 refine zjo rfl hR ?_ ?_<;>clear hR<;>intro hR h5 h5p
 ·refine sr 9 rfl (zrl 6 3 [2,2] [(24,sv d.text),(28,iv (if (300:Int)<(d.text.length:Int) then (300:Int) else (d.text.length:Int)))] ?_)
  have:=D3e (d.text.length:Int) (300:Int)
  refine ix rfl (A7b (T:=9) Tryz.underlying9 rfl rfl rfl ((if (300:Int)<(d.text.length:Int) then (300:Int) else (d.text.length:Int)).toNat) (by omega) (by omega)) ?_
  refine zrg 2 0 [0] [] [bx b3 (A4 ({Act.zero with kind:=(IntKind.i64.wrap ((1:Int)+(d.kind % 46))),text:=(d.text.take ((if (300:Int)<(d.text.length:Int) then (300:Int) else (d.text.length:Int)).toNat))})) 26,bx b2 (A4 Act.zero) 26,bx b1 (L5 d) 41] ?_
  refine ie (A8 (sr 3 rfl (zrl 1 2 [0] [(31,ag (A4 ({Act.zero with kind:=(IntKind.i64.wrap ((1:Int)+(d.kind % 46))),text:=(d.text.take ((if (300:Int)<(d.text.length:Int) then (300:Int) else (d.text.length:Int)).toNat))})))] ?_)))
  refine zca (A6s ({Act.zero with kind:=(IntKind.i64.wrap ((1:Int)+(d.kind % 46))),text:=(d.text.take ((if (300:Int)<(d.text.length:Int) then (300:Int) else (d.text.length:Int)).toNat))}) _ rfl) fn0 ?_
  refine ip' 1 0 [(33,bv (!(C8 ({Act.zero with kind:=(IntKind.i64.wrap ((1:Int)+(d.kind % 46))),text:=(d.text.take ((if (300:Int)<(d.text.length:Int) then (300:Int) else (d.text.length:Int)).toNat))}))))] ?_
  refine ie ?_
  refine zjb rfl hR ?_ ?_<;>clear hR<;>intro hR h6
  ·refine A2 2 rfl (zrg 2 0 [0] [] [bx b3 (A4 ({Act.zero with kind:=(IntKind.i64.wrap ((1:Int)+(d.kind % 46))),text:=([116]:List UInt8)})) 26,bx b2 (A4 Act.zero) 26,bx b1 (L5 d) 41] ?_)
   refine A3 (nx (sr 2 rfl (zrg 2 0 [0,1] [] [bx b3 (A4 ({Act.zero with kind:=(IntKind.i64.wrap ((1:Int)+(d.kind % 46))),text:=([116]:List UInt8)})) 26,bx b2 (A4 ({Act.zero with kind:=(IntKind.i64.wrap ((1:Int)+(d.kind % 46))),text:=([116]:List UInt8)})) 26,bx b1 (L5 d) 41] ?_)))
   subst hR
   refine ie (A9 ?_)
   exact zer hr hD (N4 rfl (F1 (us:=A4 ({Act.zero with kind:=(IntKind.i64.wrap ((1:Int)+(d.kind % 46))),text:=([116]:List UInt8)})) A3l rfl 1 rfl rfl rfl)) () (mk [false,false,false] rfl) fn0
  refine A6 (nx (sr 2 rfl (zrg 2 0 [0,1] [] [bx b3 (A4 ({Act.zero with kind:=(IntKind.i64.wrap ((1:Int)+(d.kind % 46))),text:=(d.text.take ((if (300:Int)<(d.text.length:Int) then (300:Int) else (d.text.length:Int)).toNat))})) 26,bx b2 (A4 ({Act.zero with kind:=(IntKind.i64.wrap ((1:Int)+(d.kind % 46))),text:=(d.text.take ((if (300:Int)<(d.text.length:Int) then (300:Int) else (d.text.length:Int)).toNat))})) 26,bx b1 (L5 d) 41] ?_)))
  subst hR
  refine ie (A9 ?_)
  exact zer hr hD (N4 rfl (F1 (us:=A4 ({Act.zero with kind:=(IntKind.i64.wrap ((1:Int)+(d.kind % 46))),text:=(d.text.take ((if (300:Int)<(d.text.length:Int) then (300:Int) else (d.text.length:Int)).toNat))})) A3l rfl 1 rfl rfl rfl)) () (mk [false,false,false] rfl) fn0
 refine A6 (nx (A8 (sr 3 rfl (zrl 3 0 [0] [(38,bv (decide ((IntKind.i64.wrap ((1:Int)+(d.kind % 46)))=45)))] ?_))))
 refine ie ?_
 refine zjd rfl hR ?_ ?_<;>clear hR<;>intro hR h7 h7p
 ·refine sh 13 [(10,[bx b3 (A4 ({Act.zero with kind:=(IntKind.i64.wrap ((1:Int)+(d.kind % 46)))})) 26]),(13,[bx b2 (A4 Act.zero) 26]),(13,[bx b1 (L5 d) 41])] [] [bx b3 (A4 ({Act.zero with kind:=(IntKind.i64.wrap ((1:Int)+(d.kind % 46)))})) 26,bx b2 (A4 Act.zero) 26,bx b1 (L5 d) 41] (zml 13 0) (by kernel_rfl) rfl (by kernel_rfl) (by kernel_rfl) (by kernel_rfl) (mk [true,true,true] rfl) A1.refl ?_
  refine zhp [0,4] 11 (zml 13 17) [(39,pt b1 1),(43,pt b1 3)] ?_
  refine zhl 1 [bx b3 (A4 ({Act.zero with kind:=(IntKind.i64.wrap ((1:Int)+(d.kind % 46)))})) 26,bx b2 (A4 Act.zero) 26,bx b1 (L5 d) 41] (zml 13 19) rfl (B4 (v:=.int .u16 d.n) D8q rfl rfl 2 rfl rfl) ?_
  refine zhk 2 (zml 13 23) rfl (V3 (c:=(d.n % 256)) rfl rfl rfl (by decide) (by omega)) ?_
  refine zhk 3 (zml 13 31) rfl (N8 (c:=(d.n % 256)) Tryz.underlying3 (by kernel_rfl) rfl rfl (P1 (by first|(simp [IntKind.min,IntKind.signed,IntKind.bits];omega)|(simp [IntKind.max,IntKind.signed,IntKind.bits];omega)) (by first|(simp [IntKind.min,IntKind.signed,IntKind.bits];omega)|(simp [IntKind.max,IntKind.signed,IntKind.bits];omega)))) ?_
  refine zhp [9] 7 (zml 13 543) [(48,pt b3 1)] ?_
  refine zhl 5 [bx b2 (A4 Act.zero) 26,bx b1 (L5 d) 41] (zml 13 575) rfl (B4 (v:=.int .u32 d.rgb) E7v rfl rfl 1 rfl rfl) ?_
  refine zhk 6 (zml 13 639) rfl (V3 (c:=(d.rgb % 16777216)) rfl rfl rfl (by decide) (by omega)) ?_
  refine zhk 7 (zml 13 767) rfl (N8 (c:=(d.rgb % 16777216)) Tryz.underlying3 (by kernel_rfl) rfl rfl (P1 (by first|(simp [IntKind.min,IntKind.signed,IntKind.bits];omega)|(simp [IntKind.max,IntKind.signed,IntKind.bits];omega)) (by first|(simp [IntKind.min,IntKind.signed,IntKind.bits];omega)|(simp [IntKind.max,IntKind.signed,IntKind.bits];omega)))) ?_
  refine zhk 8 (zml 13 1023) rfl (C6s (cs:=M8 (⟨2,(d.rgb % 16777216)⟩:Col)) rfl rfl (by kernel_rfl)) ?_
  refine zho 10 [bx b2 (A4 Act.zero) 26,bx b1 (L5 d) 41] (zml 13 2047) rfl (O4 (us:=[iv (d.n % 256)]) (cs':=A4 ({Act.zero with kind:=(IntKind.i64.wrap ((1:Int)+(d.kind % 46))),n:=(d.n % 256)})) ty3 rfl rfl rfl 0 rfl rfl rfl rfl rfl rfl) (fun _=>(mk [false,true,true] rfl)) (fun _=>fn0) fun _=>?_
  refine zhp [11] 1 (zml 13 4095) [(49,pt b3 3)] ?_
  refine zho 12 [bx b2 (A4 Act.zero) 26,bx b1 (L5 d) 41] (zml 13 8191) rfl (O4 (us:=M8 (⟨2,(d.rgb % 16777216)⟩:Col)) (cs':=A4 ({Act.zero with kind:=(IntKind.i64.wrap ((1:Int)+(d.kind % 46))),n:=(d.n % 256),color:=(⟨2,(d.rgb % 16777216)⟩:Col)})) B5d rfl rfl rfl 0 rfl rfl rfl rfl rfl rfl) (fun _=>(mk [false,true,true] rfl)) (fun _=>fn0) fun _=>?_
  refine A6u (by kernel_rfl) ?_
  refine sr 2 rfl (zrg 2 0 [0,1] [] [bx b3 (A4 ({Act.zero with kind:=(IntKind.i64.wrap ((1:Int)+(d.kind % 46))),n:=(d.n % 256),color:=(⟨2,(d.rgb % 16777216)⟩:Col)})) 26,bx b2 (A4 ({Act.zero with kind:=(IntKind.i64.wrap ((1:Int)+(d.kind % 46))),n:=(d.n % 256),color:=(⟨2,(d.rgb % 16777216)⟩:Col)})) 26,bx b1 (L5 d) 41] ?_)
  subst hR
  refine ie (A9 ?_)
  exact zer hr hD (N4 rfl (F1 (us:=A4 ({Act.zero with kind:=(IntKind.i64.wrap ((1:Int)+(d.kind % 46))),n:=(d.n % 256),color:=(⟨2,(d.rgb % 16777216)⟩:Col)})) A3l rfl 1 rfl rfl rfl)) () (mk [false,false,false] rfl) fn0
 refine A6 (nx (A8 (sr 3 rfl (zrl 3 0 [0] [(53,bv (decide ((IntKind.i64.wrap ((1:Int)+(d.kind % 46)))=39)))] ?_))))
 refine ie ?_
 refine zjd rfl hR ?_ ?_<;>clear hR<;>intro hR h8 h8p
 ·refine sr 3 rfl (zrl 1 2 [2] [(54,ag (L5 d))] ?_)
  refine zca (D0d d (by first|assumption|(exact hdl _ (List.getElem_mem (by omega)))|(rw [gdE (by omega)];exact hdl _ (List.getElem_mem (by omega)))) _ rfl) fn0 ?_
  refine zrg 1 0 [1] [] [bx b3 (A4 ({Act.zero with kind:=(IntKind.i64.wrap ((1:Int)+(d.kind % 46)))})) 26,bx b2 (A4 (A3o d)) 26,bx b1 (L5 d) 41] ?_
  subst hR
  refine ie (A9 ?_)
  exact zer hr hD (N4 rfl (F1 (us:=A4 (A3o d)) A3l rfl 1 rfl rfl rfl)) () (mk [false,false,false] rfl) fn0
 refine A6 (nx (sr 3 rfl (Q2 3 0 [0] (fun b9=>[(4,pt b9 0)]) (fun b9=>[bx b9 [iv 65536,iv 10000,iv 7,iv 4,iv 2] 85,bx b3 (A4 ({Act.zero with kind:=(IntKind.i64.wrap ((1:Int)+(d.kind % 46)))})) 26,bx b2 (A4 Act.zero) 26,bx b1 (L5 d) 41]) (fun b9=>?_))))
 refine ie (A8 (sr 1 rfl (ip' 1 0 [(5,iv 0)] ?_)))
 refine ie (B3 (D2k (fun (fu:Nat) (i:Nat)=>((5 - i)<fu∧J8 d fu i=R,[(1,pt b1 0),(2,pt b2 0),(3,pt b3 0),(4,pt b9 0),(5,iv (i:Int))],[bx b9 [iv 65536,iv 10000,iv 7,iv 4,iv 2] 85,bx b3 (A4 ({Act.zero with kind:=(IntKind.i64.wrap ((1:Int)+(d.kind % 46)))})) 26,bx b2 (A4 Act.zero) 26,bx b1 (L5 d) 41],[],fu)) ((5 - 0)+1) 0 ⟨(Nat.lt_succ_self _),hR⟩ (mk [true,true,true,true] rfl) fn0 ?_))
 rintro fu i ⟨hm10,hR⟩
 obtain ⟨fu1,rfl⟩:∃ m,fu=m+1:=⟨fu - 1,by omega⟩
 replace hR:=(J8.eq_2 ..).symm.trans hR
 refine A8 (sr 2 rfl (ip' 2 0 [(58,bv (decide ((i:Int)<5)))] ?_))
 refine ie ?_
 refine zjd rfl hR ?_ ?_<;>clear hR<;>intro hR h11 h11p
 ·refine A6 (nx (A8 (B3 (sr 1 rfl (ip' 1 0 [(6,iv 0)] ?_)))))
  refine ie (B3 (D2k (fun (fu2:Nat) (k:Nat)=>((5 - k)<fu2∧K4 d i (J8 d fu1) fu2 k=R,[(1,pt b1 0),(2,pt b2 0),(3,pt b3 0),(4,pt b9 0),(5,iv (i:Int)),(6,iv (k:Int))],[bx b9 [iv 65536,iv 10000,iv 7,iv 4,iv 2] 85,bx b3 (A4 ({Act.zero with kind:=(IntKind.i64.wrap ((1:Int)+(d.kind % 46)))})) 26,bx b2 (A4 Act.zero) 26,bx b1 (L5 d) 41],[],fu2)) ((5 - 0)+1) 0 ⟨(Nat.lt_succ_self _),hR⟩ (mk [true,true,true,true] rfl) fn0 ?_))
  rintro fu2 k ⟨hm12,hR⟩
  obtain ⟨fu3,rfl⟩:∃ m,fu2=m+1:=⟨fu2 - 1,by omega⟩
  replace hR:=(K4.eq_2 ..).symm.trans hR
  refine A8 (sr 2 rfl (ip' 2 0 [(62,bv (decide ((k:Int)<5)))] ?_))
  refine ie ?_
  refine zjd rfl hR ?_ ?_<;>clear hR<;>intro hR h13 h13p
  ·refine A6 (nx (A8 (B3 (sr 1 rfl (ip' 1 0 [(7,iv 0)] ?_)))))
   refine ie (B3 (D2k (fun (fu4:Nat) (by_:Nat)=>((5 - by_)<fu4∧M5 d i k (K4 d i (J8 d fu1) fu3) fu4 by_=R,[(1,pt b1 0),(2,pt b2 0),(3,pt b3 0),(4,pt b9 0),(5,iv (i:Int)),(6,iv (k:Int)),(7,iv (by_:Int))],[bx b9 [iv 65536,iv 10000,iv 7,iv 4,iv 2] 85,bx b3 (A4 ({Act.zero with kind:=(IntKind.i64.wrap ((1:Int)+(d.kind % 46)))})) 26,bx b2 (A4 Act.zero) 26,bx b1 (L5 d) 41],[],fu4)) ((5 - 0)+1) 0 ⟨(Nat.lt_succ_self _),hR⟩ (mk [true,true,true,true] rfl) fn0 ?_))
   rintro fu4 by_ ⟨hm14,hR⟩
   obtain ⟨fu5,rfl⟩:∃ m,fu4=m+1:=⟨fu4 - 1,by omega⟩
   replace hR:=(M5.eq_2 ..).symm.trans hR
   refine A8 (sr 2 rfl (ip' 2 0 [(66,bv (decide ((by_:Int)<5)))] ?_))
   refine ie ?_
   refine zjd rfl hR ?_ ?_<;>clear hR<;>intro hR h15 h15p
   ·refine A6 (nx (A8 (B3 (sr 3 rfl (Q2 3 0 [1,0] (fun b16=>[(8,pt b16 0)]) (fun b16=>[bx b16 (A4 ({Act.zero with kind:=(IntKind.i64.wrap ((1:Int)+(d.kind % 46)))})) 26,bx b9 [iv 65536,iv 10000,iv 7,iv 4,iv 2] 85,bx b3 (A4 ({Act.zero with kind:=(IntKind.i64.wrap ((1:Int)+(d.kind % 46)))})) 26,bx b2 (A4 Act.zero) 26,bx b1 (L5 d) 41]) (fun b16=>?_))))))
    refine ie (sh 20 [(17,[bx b16 (A4 ({Act.zero with kind:=(IntKind.i64.wrap ((1:Int)+(d.kind % 46)))})) 26]),(20,[bx b9 [iv 65536,iv 10000,iv 7,iv 4,iv 2] 85]),(20,[bx b3 (A4 ({Act.zero with kind:=(IntKind.i64.wrap ((1:Int)+(d.kind % 46)))})) 26]),(20,[bx b2 (A4 Act.zero) 26]),(20,[bx b1 (L5 d) 41])] [] [bx b16 (A4 ({Act.zero with kind:=(IntKind.i64.wrap ((1:Int)+(d.kind % 46)))})) 26,bx b9 [iv 65536,iv 10000,iv 7,iv 4,iv 2] 85,bx b3 (A4 ({Act.zero with kind:=(IntKind.i64.wrap ((1:Int)+(d.kind % 46)))})) 26,bx b2 (A4 Act.zero) 26,bx b1 (L5 d) 41] (zml 20 0) (by kernel_rfl) rfl (by kernel_rfl) (by kernel_rfl) (by kernel_rfl) (mk [true,true,true,true,true] rfl) A1.refl ?_)
    refine zhp [0,3,7,9,12] 15 (zml 20 4745) [(70,pt b1 1),(73,iv (i:Int)),(77,iv (by_:Int)),(79,pt b1 2),(82,iv (k:Int))] ?_
    refine zhl 1 [bx b16 (A4 ({Act.zero with kind:=(IntKind.i64.wrap ((1:Int)+(d.kind % 46)))})) 26,bx b9 [iv 65536,iv 10000,iv 7,iv 4,iv 2] 85,bx b3 (A4 ({Act.zero with kind:=(IntKind.i64.wrap ((1:Int)+(d.kind % 46)))})) 26,bx b2 (A4 Act.zero) 26,bx b1 (L5 d) 41] (zml 20 4747) rfl (B4 (v:=.int .u16 d.n) D8q rfl rfl 4 rfl rfl) ?_
    refine zhk 2 (zml 20 4751) rfl (N8 (c:=d.n) Tryz.underlying3 (by kernel_rfl) rfl rfl (P1 (by first|(simp [IntKind.min,IntKind.signed,IntKind.bits];omega)|(simp [IntKind.max,IntKind.signed,IntKind.bits];omega)) (by first|(simp [IntKind.min,IntKind.signed,IntKind.bits];omega)|(simp [IntKind.max,IntKind.signed,IntKind.bits];omega)))) ?_
    refine zhl 4 [bx b16 (A4 ({Act.zero with kind:=(IntKind.i64.wrap ((1:Int)+(d.kind % 46)))})) 26,bx b9 [iv 65536,iv 10000,iv 7,iv 4,iv 2] 85,bx b3 (A4 ({Act.zero with kind:=(IntKind.i64.wrap ((1:Int)+(d.kind % 46)))})) 26,bx b2 (A4 Act.zero) 26,bx b1 (L5 d) 41] (zml 20 4767) rfl (V0 Tryz.underlying85 ty3 rfl rfl rfl i rfl (by omega)) ?_
    refine zhl 5 [bx b16 (A4 ({Act.zero with kind:=(IntKind.i64.wrap ((1:Int)+(d.kind % 46)))})) 26,bx b9 [iv 65536,iv 10000,iv 7,iv 4,iv 2] 85,bx b3 (A4 ({Act.zero with kind:=(IntKind.i64.wrap ((1:Int)+(d.kind % 46)))})) 26,bx b2 (A4 Act.zero) 26,bx b1 (L5 d) 41] (zml 20 4799) rfl (N6 (u:=iv (([65536,10000,7,4,2]:List Int).getD i 0)) (c:=F0) (xs:=([65536,10000,7,4,2]:List Int)) (j:=[]) (sz:=1) ty3 (fun _=>rfl) rfl rfl 1 rfl i 0 rfl (gd 0 (by simp only [List.length_cons,List.length_nil];omega)) rfl) ?_
    refine zhk 6 (zml 20 4863) rfl (B2b rfl rfl rfl (by first|omega|exact C7s (by decide) (by first|omega|(simp<;>omega))|omega) rfl) ?_
    refine zhk 8 (zml 20 5119) rfl (G9.pure rfl) ?_
    refine zhp [16] 8 (zml 20 70655) [(86,pt b16 1)] ?_
    refine zhl 10 [bx b9 [iv 65536,iv 10000,iv 7,iv 4,iv 2] 85,bx b3 (A4 ({Act.zero with kind:=(IntKind.i64.wrap ((1:Int)+(d.kind % 46)))})) 26,bx b2 (A4 Act.zero) 26,bx b1 (L5 d) 41] (zml 20 71679) rfl (B4 (v:=.int .u16 d.m) D8q rfl rfl 3 rfl rfl) ?_
    refine zhk 11 (zml 20 73727) rfl (N8 (c:=d.m) Tryz.underlying3 (by kernel_rfl) rfl rfl (P1 (by first|(simp [IntKind.min,IntKind.signed,IntKind.bits];omega)|(simp [IntKind.max,IntKind.signed,IntKind.bits];omega)) (by first|(simp [IntKind.min,IntKind.signed,IntKind.bits];omega)|(simp [IntKind.max,IntKind.signed,IntKind.bits];omega)))) ?_
    refine zhl 13 [bx b9 [iv 65536,iv 10000,iv 7,iv 4,iv 2] 85,bx b3 (A4 ({Act.zero with kind:=(IntKind.i64.wrap ((1:Int)+(d.kind % 46)))})) 26,bx b2 (A4 Act.zero) 26,bx b1 (L5 d) 41] (zml 20 81919) rfl (V0 Tryz.underlying85 ty3 rfl rfl rfl k rfl (by omega)) ?_
    refine zhl 14 [bx b9 [iv 65536,iv 10000,iv 7,iv 4,iv 2] 85,bx b3 (A4 ({Act.zero with kind:=(IntKind.i64.wrap ((1:Int)+(d.kind % 46)))})) 26,bx b2 (A4 Act.zero) 26,bx b1 (L5 d) 41] (zml 20 98303) rfl (N6 (u:=iv (([65536,10000,7,4,2]:List Int).getD k 0)) (c:=F0) (xs:=([65536,10000,7,4,2]:List Int)) (j:=[]) (sz:=1) ty3 (fun _=>rfl) rfl rfl 0 rfl k 0 rfl (gd 0 (by simp only [List.length_cons,List.length_nil];omega)) rfl) ?_
    refine zhk 15 (zml 20 131071) rfl (B2b rfl rfl rfl (by first|omega|exact C7s (by decide) (by first|omega|(simp<;>omega))|omega) rfl) ?_
    refine zho 17 [bx b9 [iv 65536,iv 10000,iv 7,iv 4,iv 2] 85,bx b3 (A4 ({Act.zero with kind:=(IntKind.i64.wrap ((1:Int)+(d.kind % 46)))})) 26,bx b2 (A4 Act.zero) 26,bx b1 (L5 d) 41] (zml 20 262143) rfl (O4 (us:=[iv (IntKind.i64.wrap ((Int.tmod d.n (([65536,10000,7,4,2]:List Int).getD i 0))+(by_:Int)))]) (cs':=A4 ({Act.zero with kind:=(IntKind.i64.wrap ((1:Int)+(d.kind % 46))),n:=(IntKind.i64.wrap ((Int.tmod d.n (([65536,10000,7,4,2]:List Int).getD i 0))+(by_:Int)))})) ty3 rfl rfl rfl 0 rfl rfl rfl rfl rfl rfl) (fun _=>(mk [false,true,true,true,true] rfl)) (fun _=>fn0) fun _=>?_
    refine zhp [18] 1 (zml 20 524287) [(87,pt b16 2)] ?_
    refine zho 19 [bx b9 [iv 65536,iv 10000,iv 7,iv 4,iv 2] 85,bx b3 (A4 ({Act.zero with kind:=(IntKind.i64.wrap ((1:Int)+(d.kind % 46)))})) 26,bx b2 (A4 Act.zero) 26,bx b1 (L5 d) 41] (zml 20 1048575) rfl (O4 (us:=[iv (Int.tmod d.m (([65536,10000,7,4,2]:List Int).getD k 0))]) (cs':=A4 ({Act.zero with kind:=(IntKind.i64.wrap ((1:Int)+(d.kind % 46))),n:=(IntKind.i64.wrap ((Int.tmod d.n (([65536,10000,7,4,2]:List Int).getD i 0))+(by_:Int))),m:=(Int.tmod d.m (([65536,10000,7,4,2]:List Int).getD k 0))})) ty3 rfl rfl rfl 0 rfl rfl rfl rfl rfl rfl) (fun _=>(mk [false,true,true,true,true] rfl)) (fun _=>fn0) fun _=>?_
    refine A6u (by kernel_rfl) ?_
    refine A8 (sr 2 rfl (zrl 1 1 [0] [(88,ag (A4 ({Act.zero with kind:=(IntKind.i64.wrap ((1:Int)+(d.kind % 46))),n:=(IntKind.i64.wrap ((Int.tmod d.n (([65536,10000,7,4,2]:List Int).getD i 0))+(by_:Int))),m:=(Int.tmod d.m (([65536,10000,7,4,2]:List Int).getD k 0))})))] ?_))
    refine zca (A6s ({Act.zero with kind:=(IntKind.i64.wrap ((1:Int)+(d.kind % 46))),n:=(IntKind.i64.wrap ((Int.tmod d.n (([65536,10000,7,4,2]:List Int).getD i 0))+(by_:Int))),m:=(Int.tmod d.m (([65536,10000,7,4,2]:List Int).getD k 0))}) _ rfl) fn0 ?_
    refine ie ?_
    refine zjb rfl hR ?_ ?_<;>clear hR<;>intro hR h17
    ·refine sr 2 rfl (zrg 2 0 [0,3] [] [bx b16 (A4 ({Act.zero with kind:=(IntKind.i64.wrap ((1:Int)+(d.kind % 46))),n:=(IntKind.i64.wrap ((Int.tmod d.n (([65536,10000,7,4,2]:List Int).getD i 0))+(by_:Int))),m:=(Int.tmod d.m (([65536,10000,7,4,2]:List Int).getD k 0))})) 26,bx b9 [iv 65536,iv 10000,iv 7,iv 4,iv 2] 85,bx b3 (A4 ({Act.zero with kind:=(IntKind.i64.wrap ((1:Int)+(d.kind % 46)))})) 26,bx b2 (A4 ({Act.zero with kind:=(IntKind.i64.wrap ((1:Int)+(d.kind % 46))),n:=(IntKind.i64.wrap ((Int.tmod d.n (([65536,10000,7,4,2]:List Int).getD i 0))+(by_:Int))),m:=(Int.tmod d.m (([65536,10000,7,4,2]:List Int).getD k 0))})) 26,bx b1 (L5 d) 41] ?_)
     subst hR
     refine ie (A9 ?_)
     exact zer hr hD (N4 rfl (F1 (us:=A4 ({Act.zero with kind:=(IntKind.i64.wrap ((1:Int)+(d.kind % 46))),n:=(IntKind.i64.wrap ((Int.tmod d.n (([65536,10000,7,4,2]:List Int).getD i 0))+(by_:Int))),m:=(Int.tmod d.m (([65536,10000,7,4,2]:List Int).getD k 0))})) A3l rfl 3 rfl rfl rfl)) () (mk [false,false,false,false,false] rfl) fn0
    refine A6 (nx (sr 5 rfl (zrl 2 3 [0] [(92,iv (Int.tmod d.m (([65536,10000,7,4,2]:List Int).getD k 0)))] ?_)))
    refine ix rfl (G9.pure rfl) ?_
    refine zrg 2 0 [0] [] [bx b16 (A4 ({Act.zero with kind:=(IntKind.i64.wrap ((1:Int)+(d.kind % 46))),n:=(IntKind.i64.wrap ((Int.tmod d.n (([65536,10000,7,4,2]:List Int).getD i 0))+(by_:Int))),m:=(IntKind.i64.wrap ((Int.tmod d.m (([65536,10000,7,4,2]:List Int).getD k 0))+(1:Int)))})) 26,bx b9 [iv 65536,iv 10000,iv 7,iv 4,iv 2] 85,bx b3 (A4 ({Act.zero with kind:=(IntKind.i64.wrap ((1:Int)+(d.kind % 46)))})) 26,bx b2 (A4 Act.zero) 26,bx b1 (L5 d) 41] ?_
    refine ie (A8 (sr 2 rfl (zrl 1 1 [0] [(95,ag (A4 ({Act.zero with kind:=(IntKind.i64.wrap ((1:Int)+(d.kind % 46))),n:=(IntKind.i64.wrap ((Int.tmod d.n (([65536,10000,7,4,2]:List Int).getD i 0))+(by_:Int))),m:=(IntKind.i64.wrap ((Int.tmod d.m (([65536,10000,7,4,2]:List Int).getD k 0))+(1:Int)))})))] ?_)))
    refine zca (A6s ({Act.zero with kind:=(IntKind.i64.wrap ((1:Int)+(d.kind % 46))),n:=(IntKind.i64.wrap ((Int.tmod d.n (([65536,10000,7,4,2]:List Int).getD i 0))+(by_:Int))),m:=(IntKind.i64.wrap ((Int.tmod d.m (([65536,10000,7,4,2]:List Int).getD k 0))+(1:Int)))}) _ rfl) fn0 ?_
    refine ie ?_
    refine zjb rfl hR ?_ ?_<;>clear hR<;>intro hR h18
    ·refine sr 2 rfl (zrg 2 0 [0,3] [] [bx b16 (A4 ({Act.zero with kind:=(IntKind.i64.wrap ((1:Int)+(d.kind % 46))),n:=(IntKind.i64.wrap ((Int.tmod d.n (([65536,10000,7,4,2]:List Int).getD i 0))+(by_:Int))),m:=(IntKind.i64.wrap ((Int.tmod d.m (([65536,10000,7,4,2]:List Int).getD k 0))+(1:Int)))})) 26,bx b9 [iv 65536,iv 10000,iv 7,iv 4,iv 2] 85,bx b3 (A4 ({Act.zero with kind:=(IntKind.i64.wrap ((1:Int)+(d.kind % 46)))})) 26,bx b2 (A4 ({Act.zero with kind:=(IntKind.i64.wrap ((1:Int)+(d.kind % 46))),n:=(IntKind.i64.wrap ((Int.tmod d.n (([65536,10000,7,4,2]:List Int).getD i 0))+(by_:Int))),m:=(IntKind.i64.wrap ((Int.tmod d.m (([65536,10000,7,4,2]:List Int).getD k 0))+(1:Int)))})) 26,bx b1 (L5 d) 41] ?_)
     subst hR
     refine ie (A9 ?_)
     exact zer hr hD (N4 rfl (F1 (us:=A4 ({Act.zero with kind:=(IntKind.i64.wrap ((1:Int)+(d.kind % 46))),n:=(IntKind.i64.wrap ((Int.tmod d.n (([65536,10000,7,4,2]:List Int).getD i 0))+(by_:Int))),m:=(IntKind.i64.wrap ((Int.tmod d.m (([65536,10000,7,4,2]:List Int).getD k 0))+(1:Int)))})) A3l rfl 3 rfl rfl rfl)) () (mk [false,false,false,false,false] rfl) fn0
    refine A6 (nx (sr 2 rfl (zrg 2 0 [0] [] [bx b16 (A4 ({Act.zero with kind:=(IntKind.i64.wrap ((1:Int)+(d.kind % 46))),n:=(IntKind.i64.wrap ((Int.tmod d.n (([65536,10000,7,4,2]:List Int).getD i 0))+(by_:Int))),m:=0})) 26,bx b9 [iv 65536,iv 10000,iv 7,iv 4,iv 2] 85,bx b3 (A4 ({Act.zero with kind:=(IntKind.i64.wrap ((1:Int)+(d.kind % 46)))})) 26,bx b2 (A4 Act.zero) 26,bx b1 (L5 d) 41] ?_)))
    refine ie (sr 2 rfl (zrl 1 1 [0] [(99,ag (A4 ({Act.zero with kind:=(IntKind.i64.wrap ((1:Int)+(d.kind % 46))),n:=(IntKind.i64.wrap ((Int.tmod d.n (([65536,10000,7,4,2]:List Int).getD i 0))+(by_:Int))),m:=0})))] ?_))
    refine zca (A6s ({Act.zero with kind:=(IntKind.i64.wrap ((1:Int)+(d.kind % 46))),n:=(IntKind.i64.wrap ((Int.tmod d.n (([65536,10000,7,4,2]:List Int).getD i 0))+(by_:Int))),m:=0}) _ rfl) fn0 ?_
    refine ie ?_
    refine zjb rfl hR ?_ ?_<;>clear hR<;>intro hR h19
    ·refine sr 2 rfl (zrg 2 0 [0,3] [] [bx b16 (A4 ({Act.zero with kind:=(IntKind.i64.wrap ((1:Int)+(d.kind % 46))),n:=(IntKind.i64.wrap ((Int.tmod d.n (([65536,10000,7,4,2]:List Int).getD i 0))+(by_:Int))),m:=0})) 26,bx b9 [iv 65536,iv 10000,iv 7,iv 4,iv 2] 85,bx b3 (A4 ({Act.zero with kind:=(IntKind.i64.wrap ((1:Int)+(d.kind % 46)))})) 26,bx b2 (A4 ({Act.zero with kind:=(IntKind.i64.wrap ((1:Int)+(d.kind % 46))),n:=(IntKind.i64.wrap ((Int.tmod d.n (([65536,10000,7,4,2]:List Int).getD i 0))+(by_:Int))),m:=0})) 26,bx b1 (L5 d) 41] ?_)
     subst hR
     refine ie (A9 ?_)
     exact zer hr hD (N4 rfl (F1 (us:=A4 ({Act.zero with kind:=(IntKind.i64.wrap ((1:Int)+(d.kind % 46))),n:=(IntKind.i64.wrap ((Int.tmod d.n (([65536,10000,7,4,2]:List Int).getD i 0))+(by_:Int))),m:=0})) A3l rfl 3 rfl rfl rfl)) () (mk [false,false,false,false,false] rfl) fn0
    refine A6 (nx (A2 3 rfl (ip' 1 2 [(67,iv (by_:Int))] ?_)))
    refine ix rfl (B5 rfl rfl rfl rfl (by omega)) ?_
    refine ip' 1 0 [(7,iv ((by_:Int)+1))] ?_
    refine A3 ?_
    exact D3r (z1:=(fu5+1)) (z2:=by_) fu5 (by_+1) ⟨(by omega),hR⟩ (Nat.lt_succ_self _) (mk [false,true,true,true,true] rfl) fn0
   refine I3 (nx (A2 3 rfl (ip' 1 2 [(63,iv (k:Int))] ?_)))
   refine ix rfl (B5 rfl rfl rfl rfl (by omega)) ?_
   refine ip' 1 0 [(6,iv ((k:Int)+1))] ?_
   refine A3 ?_
   exact D3r (z1:=(fu3+1)) (z2:=k) fu3 (k+1) ⟨(by omega),hR⟩ (Nat.lt_succ_self _) (mk [true,true,true,true] rfl) fn0
  refine I3 (nx (A2 3 rfl (ip' 1 2 [(59,iv (i:Int))] ?_)))
  refine ix rfl (B5 rfl rfl rfl rfl (by omega)) ?_
  refine ip' 1 0 [(5,iv ((i:Int)+1))] ?_
  refine A3 ?_
  exact D3r (z1:=(fu1+1)) (z2:=i) fu1 (i+1) ⟨(by omega),hR⟩ (Nat.lt_succ_self _) (mk [true,true,true,true] rfl) fn0
 refine I3 (nx (sr 2 rfl (zrg 2 0 [2] [] [bx b9 [iv 65536,iv 10000,iv 7,iv 4,iv 2] 85,bx b3 (A4 ({Act.zero with kind:=(IntKind.i64.wrap ((1:Int)+(d.kind % 46)))})) 26,bx b2 (A4 ({Act.zero with kind:=2})) 26,bx b1 (L5 d) 41] ?_)))
 subst hR
 refine ie (A9 ?_)
 exact zer hr hD (N4 rfl (F1 (us:=A4 ({Act.zero with kind:=2})) A3l rfl 2 rfl rfl rfl)) () (mk [false,false,false,false] rfl) fn0
def W9 (l:List Drf):Nat→List Act→Nat→List Act
 | 0,_,_=>[]
 | fu1+1,out,i=>(bif ((decide ((i:Int)<(l.length:Int)))&&(decide ((i:Int)<40))) then W9 l fu1 (out++([(I6 (l.getD i Drf.zero))]:List Act)) (i+1) else out)
def A3p (l:List Drf):List Act :=
 W9 l ((40 - 0)+1) ([]:List Act) 0
theorem B0p (l:List Drf):∀ (fu:Nat) (out:List Act) (i:Nat),(∀ a ∈ out,a.text.length≤300)→∀ a ∈ W9 l fu out i,a.text.length≤300
 | 0,_,_,_=>fun a ha=>by cases ha
 | fu+1,out,i,h=>by
  rw [W9]
  simp only [Bool.cond_eq_ite]
  split
  ·refine B0p l fu _ _ ?_
   intro a ha
   rcases List.mem_append.1 ha with ha | ha
   ·exact h a ha
   ·rw [List.mem_singleton.1 ha];exact A4s _
  ·exact h
theorem B4b (l:List Drf):∀ a ∈ A3p l,a.text.length≤300:=B0p l _ _ _ (fun a ha=>by cases ha)
theorem B1t (l:List Drf):∀ (fu:Nat) (out:List Act) (i:Nat),out.length=i→i≤40→(W9 l fu out i).length≤40
 | 0,_,_,_,_=>Nat.zero_le _
 | fu+1,out,i,h,h4=>by
  rw [W9]
  simp only [Bool.cond_eq_ite,Bool.and_eq_true,decide_eq_true_eq]
  split
  ·exact B1t l fu _ _ (by simp [h]) (by omega)
  ·omega
theorem A6p (l:List Drf):(A3p l).length≤40:=B1t l _ _ _ rfl (by omega)
theorem C0e (l:List Drf) (lq:Option Addr) (lk:Nat) (hll:l.length≤9223372036854775807) (hcl:l.length≤lk) (hdl:∀ d ∈ l,A9l d) (R:List Act) (hR:A3p l=R):Con Tryz.prog 14 [.slice lq l.length lk] [] [sl L5 lq l] ({r:VR // VOk 6 R.length r}) (fun x=>.slice (va x.1.q) R.length x.1.k) (fun x=>((vo A4 26 x.1 R)++([]))) (fun x=>[]):=by
 refine zco Tryz.func14 [(0,.slice lq l.length lk)] fun X hX hr hD=>?_
 replace hR:=(A3p.eq_1 ..).symm.trans hR
 refine sr 1 rfl (ip' 1 0 [] ?_)
 refine ie (sr 1 rfl (ip' 1 0 [(3,.slice none 0 0)] ?_))
 refine ie (A8 (sr 1 rfl (ip' 1 0 [(4,iv 0)] ?_)))
 refine ie (B3 ?_)
 refine C1r (fun (fu:Nat) (out:List Act) (outr:VR) (i:Nat)=>((40 - i)<fu∧W9 l fu out i=R∧VOk 6 out.length outr∧out.length=i,[(0,.slice lq l.length lk),(3,.slice (va outr.q) out.length outr.k),(4,iv (i:Int))],((vo A4 26 outr out)++([])),[sl L5 lq l],fu)) ((40 - 0)+1) ([]:List Act) VR.nil 0 ⟨(Nat.lt_succ_self _),hR,VOk.nil,(by rfl)⟩ (mc [vo A4 26 VR.nil ([]:List Act)] [true] rfl (by first|rfl|(simp only [List.length_set]<;>rfl))) A1.refl ?_
 rintro fu out outr i ⟨hm1,hR,hokoutr,ho⟩
 have:=VOk.le hokoutr
 obtain ⟨fu1,rfl⟩:∃ m,fu=m+1:=⟨fu - 1,by omega⟩
 replace hR:=(W9.eq_2 ..).symm.trans hR
 refine A8 (sr 8 rfl (ip' 5 3 [(9,bv (decide ((i:Int)<(l.length:Int))))] ?_))
 refine zid 3 0 9 12 (decide ((i:Int)<40)) (fun g2 g2p=>?_) ?_
 ·refine ip' 3 0 [(12,bv (decide ((i:Int)<40)))] ?_
  exact A3 (L6 2 9 12 g2 A1.refl (mc [vo A4 26 outr out] [true] rfl (by first|rfl|(simp only [List.length_set]<;>rfl))) rfl rfl rfl rfl rfl)
 refine ie ?_
 refine zja rfl hR ?_ ?_<;>clear hR<;>intro hR h3 h3p
 ·refine A6 (nx (A8 (B3 (A2 9 rfl (ip' 3 6 [(15,.slice (va outr.q) out.length outr.k),(16,.slice lq l.length lk),(17,iv (i:Int))] ?_)))))
  refine R8 0 rfl (by omega) fun a4 hq5=>?_
  refine ix rfl (M4 E6d rfl rfl hq5 rfl i rfl (by omega)) ?_
  refine ix rfl (S3 (us:=L5 (l.getD i Drf.zero)) E7s rfl rfl (O2 (c:=L5) (sz:=5) hq5 (fun _=>rfl) 0 rfl (gd Drf.zero (by omega))) rfl) ?_
  refine zca (B3t (l.getD i Drf.zero) (by first|assumption|(exact hdl _ (List.getElem_mem (by omega)))|(rw [gdE (by omega)];exact hdl _ (List.getElem_mem (by omega)))) _ rfl) fn0 ?_
  have:=A4s (l.getD i Drf.zero)
  refine it rfl (B6 (c:=A4) (xs:=([(I6 (l.getD i Drf.zero))]:List Act)) A4y rfl rfl rfl (by kernel_rfl)) fun b6=>?_
  have:([(I6 (l.getD i Drf.zero))]:List Act).length=1:=rfl
  refine it rfl (A7d (f:=A4) (r:=outr) (xs:=out) (ys:=([(I6 (l.getD i Drf.zero))]:List Act)) (pre:=[]) (post:=[]) E2o (fun _=>rfl) (fun _=>rfl) rfl rfl rfl rfl rfl rfl rfl rfl rfl (B1 0 rfl) hokoutr (by first|omega|(simp<;>omega)) (by first|omega|(simp<;>omega))) fun ⟨r7,hr8⟩=>?_
  have:=VOk.le hr8
  have:=VOk.cap hr8
  refine ip' 1 0 [(3,.slice (va r7.q) ((out++([(I6 (l.getD i Drf.zero))]:List Act)).length) r7.k)] ?_
  refine A3 (nx (A2 3 rfl (ip' 1 2 [(13,iv (i:Int))] ?_)))
  refine ix rfl (B5 rfl rfl rfl rfl (by omega)) ?_
  refine ip' 1 0 [(4,iv ((i:Int)+1))] ?_
  refine A3 ?_
  exact B5q (z1:=(fu1+1)) (z2:=out) (z3:=outr) (z4:=i) fu1 (out++([(I6 (l.getD i Drf.zero))]:List Act)) r7 (i+1) ⟨(by omega),hR,hr8,(by (simp<;>omega))⟩ (Nat.lt_succ_self _) (mc [vo A4 26 r7 (out++([(I6 (l.getD i Drf.zero))]:List Act))] [true] rfl (by first|rfl|(simp only [List.length_set]<;>rfl))) (A1.pick [1] rfl)
 refine I3 (nx (sr 2 rfl (ip' 2 0 [(2,.slice (va outr.q) out.length outr.k)] ?_)))
 subst hR
 refine ie (A9 ?_)
 exact zer hr hD (N4 rfl (C1 rfl)) ⟨outr,hokoutr⟩ (mc [vo A4 26 outr out] [true] rfl (by first|rfl|(simp only [List.length_set]<;>rfl))) fn0
end Go.Proofs.YtanighkpfmgnbaaGreatDoor
set_option linter.unusedVariables false
set_option linter.unusedSimpArgs false
set_option linter.unnecessarySimpa false
set_option maxRecDepth 100000
namespace Go.Proofs.YtanighkpfmgnbaaGreatDoor
open Go Go.Fen
def C0f:List UInt8:=[27,91,72,27,91,53,72,27,91,59,53,72,27,91,50,59,51,72]
def B8o:List UInt8:=[27,91,67,27,91,55,67,27,91,74,27,91,50,74]
def C2j:List UInt8:=[27,91,63,50,53,104,27,91,48,36,112,27,91,59,52,114,27,91,32,113]
def A7 (kind:Int) (n:Int) (m:Int):Act :=
 {Act.zero with kind:=kind,n:=n,m:=m}
theorem P5 (kind:Int) (n:Int) (m:Int) (R:Act) (hR:A7 kind n m=R):I4 Tryz.prog 23 [iv kind,iv n,iv m] [] (ag (A4 R)):=by
 refine zco Tryz.func23 [(0,iv kind),(1,iv n),(2,iv m)] fun X hX hr hD=>?_
 replace hR:=(A7.eq_1 ..).symm.trans hR
 refine sr 1 rfl (Q2 1 0 [] (fun b1=>[(6,pt b1 0)]) (fun b1=>[bx b1 (A4 Act.zero) 26]) (fun b1=>?_))
 refine ie (sr 5 rfl (zrg 5 0 [0] [] [bx b1 (A4 ({Act.zero with kind:=kind,n:=n,m:=m})) 26] ?_))
 subst hR
 refine ie (A9 ?_)
 exact zer hr hD (N4 rfl (F1 (us:=A4 ({Act.zero with kind:=kind,n:=n,m:=m})) A3l rfl 0 rfl rfl rfl)) () (mk [false] rfl) fn0
def J5 (s:List UInt8) (l:List Act):Bool :=
 (B9 (A1b l) fun (y0:List UInt8×Int)=>((decide (y0.1=s))&&(decide (y0.2=0))))
theorem A8v (s:List UInt8) (l:List Act) (lq:Option Addr) (lk:Nat) (hll:l.length≤9223372036854775807) (hcl:l.length≤lk) (hkind:∀ a ∈ l,a.text.length≤100000000) (R:Bool) (hR:J5 s l=R):I4 Tryz.prog 22 [sv s,.slice lq l.length lk] [sl A4 lq l,B5f,B5e,Q1,P2,L7,S1] (bv R):=by
 refine zco Tryz.func22 [(0,sv s),(1,.slice lq l.length lk)] fun X hX hr hD=>?_
 replace hR:=(J5.eq_1 ..).symm.trans hR
 refine sr 1 rfl (ip' 1 0 [] ?_)
 refine ie (sr 7 rfl (ip' 1 6 [(8,.slice lq l.length lk)] ?_))
 have hQ:=D6 hR;clear hR;obtain ⟨y0,hy0,hR⟩:=hQ
 refine it rfl (C2 (L2:=[]) (A8k l lq lk (by first|omega|(simp<;>omega)|(dsimp only;omega)|decide) (by first|omega|(simp<;>omega)|(dsimp only;omega)|decide) (by first|assumption|decide|exact fun x hx=>Nat.le_trans (hrow x hx) (by decide)|exact fun x hx=>Nat.le_trans (of_decide_eq_true (List.all_eq_true.1 hbt x hx)) (by decide)|(intro x hx;simp only [List.nil_append,List.mem_append] at hx;rcases hx with hx|hx<;>first|exact Nat.le_trans (hrow x hx) (by decide)|exact Nat.le_trans (hpt x hx) (by decide))|(intro x hx;rw [List.mem_singleton.1 hx];omega)|exact fun x hx=>Nat.le_trans (hrow x (List.mem_of_mem_take hx)) (by decide)|exact fun x hx=>Nat.le_trans (hrow x (List.mem_of_mem_drop hx)) (by decide)|exact fun x hx=>Nat.le_trans (hrow x (List.mem_of_mem_drop (List.mem_of_mem_take hx))) (by decide)|omega) y0 hy0) rfl rfl rfl rfl rfl A1.refl (List.Perm.refl _) (fun ⟨r1,hk2⟩=>((vo cU8 5 r1 y0.1)++([]))) (fun _=>by first|rfl|simp only [List.append_nil,List.cons_append,List.nil_append,List.append_assoc])) fun ⟨r1,hk2⟩=>?_
 have:=VOk.le hk2
 have:=VOk.cap hk2
 try have:=A5m l (fun x hx=>Nat.le_trans (hrow x (by first|exact hx|exact List.mem_of_mem_take hx|exact List.mem_of_mem_drop hx)) (by decide));try rw [hy0] at this
 refine A3u [] [] (T:=5) (c:=cU8) (r:=r1) (xs:=y0.1) hk2 (by first|rfl|simp only [List.cons_append,List.append_assoc,List.nil_append,List.append_nil]) ?_
 refine ip' 5 0 [(5,.slice (va r1.q) y0.1.length r1.k),(6,iv y0.2)] ?_
 refine ie (sr 9 rfl (ip' 1 8 [(12,.slice (va r1.q) y0.1.length r1.k)] ?_))
 refine ix rfl (A4i Tryz.underlying9 Tryz.underlying30 rfl rfl (B1 0 rfl) rfl (by kernel_rfl)) ?_
 refine ip' 1 6 [(14,sv s)] ?_
 refine ix rfl (B1h rfl rfl rfl) ?_
 refine ip' 1 4 [(16,bv (decide (y0.1=s)))] ?_
 refine zid 3 1 16 19 (decide (y0.2=0)) (fun g3 g3p=>?_) ?_
 ·refine ip' 3 0 [(19,bv (decide (y0.2=0)))] ?_
  exact zai 2 16 19 g3
 refine ip' 1 0 [(4,bv ((decide (y0.1=s))&&(decide (y0.2=0))))] ?_
 subst hR
 refine ie (A9 ?_)
 exact F2 hr hD
def A7a:Bool :=
 (((((J5 C0f ([(A7 19 1 1),(A7 19 5 1),(A7 19 1 5),(A7 19 2 3)]:List Act))&&(J5 B8o ([(A7 20 2 1),(A7 20 2 7),(A7 26 0 0),(A7 26 2 0)]:List Act)))&&(J5 ([27,91,49,59,51,49,109,97,27,91,48,109]:List UInt8) ([(A7 39 1 1),{Act.zero with kind:=39,n:=4,color:=(⟨1,1⟩:Col)},(A7 1 97 0),(A7 39 0 0)]:List Act)))&&(J5 C2j ([(A7 37 25 1),(A7 43 0 0),(A7 38 0 4),(A7 40 0 0)]:List Act)))&&(J5 ([27,93,50,59,116,27,92,27,43,48,14]:List UInt8) ([{Act.zero with kind:=44,text:=([116]:List UInt8)},(A7 17 3 1),(A7 7 1 0)]:List Act)))
theorem C5d (R:Bool) (hR:A7a=R):I4 Tryz.prog 17 [] [B5f,B5e,Q1,P2,L7,S1] (bv R):=by
 refine zco Tryz.func17 [] fun X hX hr hD=>?_
 replace hR:=(A7a.eq_1 ..).symm.trans hR
 refine sr 1 rfl (ip' 1 0 [] ?_)
 refine ie (sr 15 rfl (zca (P5 19 1 1 _ rfl) fn0 ?_))
 refine zca (P5 19 5 1 _ rfl) fn0 ?_
 refine zca (P5 19 1 5 _ rfl) fn0 ?_
 refine zca (P5 19 2 3 _ rfl) fn0 ?_
 refine it rfl (B6 (c:=A4) (xs:=([(A7 19 1 1),(A7 19 5 1),(A7 19 1 5),(A7 19 2 3)]:List Act)) A4y rfl rfl rfl (by kernel_rfl)) fun b1=>?_
 have:([(A7 19 1 1),(A7 19 5 1),(A7 19 1 5),(A7 19 2 3)]:List Act).length=4:=rfl
 refine zca (A8v C0f ([(A7 19 1 1),(A7 19 5 1),(A7 19 1 5),(A7 19 2 3)]:List Act) (some ⟨b1,0,none⟩) 4 (by first|omega|(simp<;>omega)|(dsimp only;omega)|decide) (by first|omega|(simp<;>omega)|(dsimp only;omega)|decide) (by first|assumption|decide|omega) _ rfl) A1.refl ?_
 refine ip' 1 8 [(11,bv (J5 C0f ([(A7 19 1 1),(A7 19 5 1),(A7 19 1 5),(A7 19 2 3)]:List Act)))] ?_
 refine zia 7 1 11 18 (J5 B8o ([(A7 20 2 1),(A7 20 2 7),(A7 26 0 0),(A7 26 2 0)]:List Act)) (fun g2=>?_) ?_
 ·refine zca (P5 20 2 1 _ rfl) fn0 ?_
  refine zca (P5 20 2 7 _ rfl) fn0 ?_
  refine zca (P5 26 0 0 _ rfl) fn0 ?_
  refine zca (P5 26 2 0 _ rfl) fn0 ?_
  refine it rfl (B6 (c:=A4) (xs:=([(A7 20 2 1),(A7 20 2 7),(A7 26 0 0),(A7 26 2 0)]:List Act)) A4y rfl rfl rfl (by kernel_rfl)) fun b3=>?_
  have:([(A7 20 2 1),(A7 20 2 7),(A7 26 0 0),(A7 26 2 0)]:List Act).length=4:=rfl
  refine zca (A8v B8o ([(A7 20 2 1),(A7 20 2 7),(A7 26 0 0),(A7 26 2 0)]:List Act) (some ⟨b3,0,none⟩) 4 (by first|omega|(simp<;>omega)|(dsimp only;omega)|decide) (by first|omega|(simp<;>omega)|(dsimp only;omega)|decide) (by first|assumption|decide|omega) _ rfl) (A1.pick [0,2,3,4,5,6,7] rfl) ?_
  refine ip' 1 0 [(18,bv (J5 B8o ([(A7 20 2 1),(A7 20 2 7),(A7 26 0 0),(A7 26 2 0)]:List Act)))] ?_
  exact A3 (L6 8 11 18 g2 (A1.pick [1,2,3,4,5,6,7] rfl) (mk [] rfl) rfl rfl rfl rfl rfl)
 refine ip' 1 0 [(1,bv ((J5 C0f ([(A7 19 1 1),(A7 19 5 1),(A7 19 1 5),(A7 19 2 3)]:List Act))&&(J5 B8o ([(A7 20 2 1),(A7 20 2 7),(A7 26 0 0),(A7 26 2 0)]:List Act))))] ?_
 refine ie (sr 4 rfl (Q2 4 0 [0] (fun b4=>[(2,pt b4 0)]) (fun b4=>[bx b4 (A4 ({Act.zero with kind:=39,n:=4,color:=(⟨1,1⟩:Col)})) 26]) (fun b4=>?_)))
 refine ie (sh 7 [(7,[bx b4 (A4 ({Act.zero with kind:=39,n:=4,color:=(⟨1,1⟩:Col)})) 26])] [sl A4 (some ⟨b1,0,none⟩) ([(A7 19 1 1),(A7 19 5 1),(A7 19 1 5),(A7 19 2 3)]:List Act),B5f,B5e,Q1,P2,L7,S1] [bx b4 (A4 ({Act.zero with kind:=39,n:=4,color:=(⟨1,1⟩:Col)})) 26] (zml 7 0) (by kernel_rfl) rfl (by kernel_rfl) (by kernel_rfl) (by kernel_rfl) (mk [true] rfl) A1.refl ?_)
 refine zhl 1 [bx b4 (A4 ({Act.zero with kind:=39,n:=4,color:=(⟨1,1⟩:Col)})) 26] (zml 7 2) rfl (K0 (us:=A4 ({Act.zero with kind:=39,n:=4,color:=(⟨1,1⟩:Col)})) A3l rfl rfl 0 rfl rfl rfl) ?_
 refine zho 0 [bx b4 (A4 ({Act.zero with kind:=39,n:=4,color:=(⟨1,1⟩:Col)})) 26] (zml 7 3) rfl (Det.tri (A0q (P5 39 1 1 _ rfl) rfl rfl rfl rfl rfl fn0)) (fun _=>(mk [true] rfl)) (fun _=>A1.refl) fun _=>?_
 refine zho 2 [bx b4 (A4 ({Act.zero with kind:=39,n:=4,color:=(⟨1,1⟩:Col)})) 26] (zml 7 7) rfl (Det.tri (A0q (P5 1 97 0 _ rfl) rfl rfl rfl rfl rfl fn0)) (fun _=>(mk [true] rfl)) (fun _=>A1.refl) fun _=>?_
 refine zho 3 [bx b4 (A4 ({Act.zero with kind:=39,n:=4,color:=(⟨1,1⟩:Col)})) 26] (zml 7 15) rfl (Det.tri (A0q (P5 39 0 0 _ rfl) rfl rfl rfl rfl rfl fn0)) (fun _=>(mk [true] rfl)) (fun _=>A1.refl) fun _=>?_
 refine zho 4 [bx b4 (A4 ({Act.zero with kind:=39,n:=4,color:=(⟨1,1⟩:Col)})) 26] (zml 7 31) rfl (B6 (c:=A4) (xs:=([(A7 39 1 1),{Act.zero with kind:=39,n:=4,color:=(⟨1,1⟩:Col)},(A7 1 97 0),(A7 39 0 0)]:List Act)) A4y rfl rfl rfl (by kernel_rfl)) (fun b5=>(mk [true] rfl)) (fun b5=>(A1.pick [1,2,3,4,5,6,7] rfl)) fun b5=>?_
 have:([(A7 39 1 1),{Act.zero with kind:=39,n:=4,color:=(⟨1,1⟩:Col)},(A7 1 97 0),(A7 39 0 0)]:List Act).length=4:=rfl
 refine zho 5 [bx b4 (A4 ({Act.zero with kind:=39,n:=4,color:=(⟨1,1⟩:Col)})) 26] (zml 7 63) rfl (Det.tri (A0q (A8v ([27,91,49,59,51,49,109,97,27,91,48,109]:List UInt8) ([(A7 39 1 1),{Act.zero with kind:=39,n:=4,color:=(⟨1,1⟩:Col)},(A7 1 97 0),(A7 39 0 0)]:List Act) (some ⟨b5,0,none⟩) 4 (by first|omega|(simp<;>omega)|(dsimp only;omega)|decide) (by first|omega|(simp<;>omega)|(dsimp only;omega)|decide) (by first|assumption|decide|omega) _ rfl) rfl rfl rfl rfl rfl (A1.pick [0,2,3,4,5,6,7] rfl))) (fun _=>(mk [true] rfl)) (fun _=>(A1.pick [1,2,3,4,5,6,7] rfl)) fun _=>?_
 refine zhp [6] 0 (zml 7 127) [(3,bv (J5 ([27,91,49,59,51,49,109,97,27,91,48,109]:List UInt8) ([(A7 39 1 1),{Act.zero with kind:=39,n:=4,color:=(⟨1,1⟩:Col)},(A7 1 97 0),(A7 39 0 0)]:List Act)))] ?_
 refine A6u (by kernel_rfl) ?_
 refine sr 7 rfl (zca (P5 37 25 1 _ rfl) fn0 ?_)
 refine zca (P5 43 0 0 _ rfl) fn0 ?_
 refine zca (P5 38 0 4 _ rfl) fn0 ?_
 refine zca (P5 40 0 0 _ rfl) fn0 ?_
 refine it rfl (B6 (c:=A4) (xs:=([(A7 37 25 1),(A7 43 0 0),(A7 38 0 4),(A7 40 0 0)]:List Act)) A4y rfl rfl rfl (by kernel_rfl)) fun b6=>?_
 have:([(A7 37 25 1),(A7 43 0 0),(A7 38 0 4),(A7 40 0 0)]:List Act).length=4:=rfl
 refine zca (A8v C2j ([(A7 37 25 1),(A7 43 0 0),(A7 38 0 4),(A7 40 0 0)]:List Act) (some ⟨b6,0,none⟩) 4 (by first|omega|(simp<;>omega)|(dsimp only;omega)|decide) (by first|omega|(simp<;>omega)|(dsimp only;omega)|decide) (by first|assumption|decide|omega) _ rfl) (A1.pick [0,3,4,5,6,7,8] rfl) ?_
 refine ip' 1 0 [(4,bv (J5 C2j ([(A7 37 25 1),(A7 43 0 0),(A7 38 0 4),(A7 40 0 0)]:List Act)))] ?_
 refine ie (sr 15 rfl (ip' 2 13 [(34,bv ((J5 C0f ([(A7 19 1 1),(A7 19 5 1),(A7 19 1 5),(A7 19 2 3)]:List Act))&&(J5 B8o ([(A7 20 2 1),(A7 20 2 7),(A7 26 0 0),(A7 26 2 0)]:List Act))))] ?_))
 refine zia 2 11 34 36 (J5 ([27,91,49,59,51,49,109,97,27,91,48,109]:List UInt8) ([(A7 39 1 1),{Act.zero with kind:=39,n:=4,color:=(⟨1,1⟩:Col)},(A7 1 97 0),(A7 39 0 0)]:List Act)) (fun g7=>?_) ?_
 ·have g7p:=g7;try simp at g7p
  refine ip' 2 0 [(36,bv (J5 ([27,91,49,59,51,49,109,97,27,91,48,109]:List UInt8) ([(A7 39 1 1),{Act.zero with kind:=39,n:=4,color:=(⟨1,1⟩:Col)},(A7 1 97 0),(A7 39 0 0)]:List Act)))] ?_
  exact zai 2 34 36 g7
 refine ip' 1 10 [(37,bv (((J5 C0f ([(A7 19 1 1),(A7 19 5 1),(A7 19 1 5),(A7 19 2 3)]:List Act))&&(J5 B8o ([(A7 20 2 1),(A7 20 2 7),(A7 26 0 0),(A7 26 2 0)]:List Act)))&&(J5 ([27,91,49,59,51,49,109,97,27,91,48,109]:List UInt8) ([(A7 39 1 1),{Act.zero with kind:=39,n:=4,color:=(⟨1,1⟩:Col)},(A7 1 97 0),(A7 39 0 0)]:List Act))))] ?_
 refine zia 2 8 37 39 (J5 C2j ([(A7 37 25 1),(A7 43 0 0),(A7 38 0 4),(A7 40 0 0)]:List Act)) (fun g8=>?_) ?_
 ·have g8p:=g8;try simp at g8p
  refine ip' 2 0 [(39,bv (J5 C2j ([(A7 37 25 1),(A7 43 0 0),(A7 38 0 4),(A7 40 0 0)]:List Act)))] ?_
  exact zai 2 37 39 g8
 refine ip' 1 7 [(40,bv ((((J5 C0f ([(A7 19 1 1),(A7 19 5 1),(A7 19 1 5),(A7 19 2 3)]:List Act))&&(J5 B8o ([(A7 20 2 1),(A7 20 2 7),(A7 26 0 0),(A7 26 2 0)]:List Act)))&&(J5 ([27,91,49,59,51,49,109,97,27,91,48,109]:List UInt8) ([(A7 39 1 1),{Act.zero with kind:=39,n:=4,color:=(⟨1,1⟩:Col)},(A7 1 97 0),(A7 39 0 0)]:List Act)))&&(J5 C2j ([(A7 37 25 1),(A7 43 0 0),(A7 38 0 4),(A7 40 0 0)]:List Act))))] ?_
 refine zia 6 1 40 46 (J5 ([27,93,50,59,116,27,92,27,43,48,14]:List UInt8) ([{Act.zero with kind:=44,text:=([116]:List UInt8)},(A7 17 3 1),(A7 7 1 0)]:List Act)) (fun g9=>?_) ?_
 ·have g9p:=g9;try simp at g9p
  refine zrl 1 5 [] [(41,ag (A4 ({Act.zero with kind:=44,text:=([116]:List UInt8)})))] ?_
  refine zca (P5 17 3 1 _ rfl) fn0 ?_
  refine zca (P5 7 1 0 _ rfl) fn0 ?_
  refine it rfl (B6 (c:=A4) (xs:=([{Act.zero with kind:=44,text:=([116]:List UInt8)},(A7 17 3 1),(A7 7 1 0)]:List Act)) A4y rfl rfl rfl (by kernel_rfl)) fun b10=>?_
  have:([{Act.zero with kind:=44,text:=([116]:List UInt8)},(A7 17 3 1),(A7 7 1 0)]:List Act).length=3:=rfl
  refine zca (A8v ([27,93,50,59,116,27,92,27,43,48,14]:List UInt8) ([{Act.zero with kind:=44,text:=([116]:List UInt8)},(A7 17 3 1),(A7 7 1 0)]:List Act) (some ⟨b10,0,none⟩) 3 (by first|omega|(simp<;>omega)|(dsimp only;omega)|decide) (by first|omega|(simp<;>omega)|(dsimp only;omega)|decide) (by first|assumption|decide|omega) _ rfl) (A1.pick [0,4,5,6,7,8,9] rfl) ?_
  refine ip' 1 0 [(46,bv (J5 ([27,93,50,59,116,27,92,27,43,48,14]:List UInt8) ([{Act.zero with kind:=44,text:=([116]:List UInt8)},(A7 17 3 1),(A7 7 1 0)]:List Act)))] ?_
  exact A3 (L6 7 40 46 g9 (A1.pick [1,2,3,4,5,6,7,8,9] rfl) (mk [true] rfl) rfl rfl rfl rfl rfl)
 refine ip' 1 0 [(0,bv (((((J5 C0f ([(A7 19 1 1),(A7 19 5 1),(A7 19 1 5),(A7 19 2 3)]:List Act))&&(J5 B8o ([(A7 20 2 1),(A7 20 2 7),(A7 26 0 0),(A7 26 2 0)]:List Act)))&&(J5 ([27,91,49,59,51,49,109,97,27,91,48,109]:List UInt8) ([(A7 39 1 1),{Act.zero with kind:=39,n:=4,color:=(⟨1,1⟩:Col)},(A7 1 97 0),(A7 39 0 0)]:List Act)))&&(J5 C2j ([(A7 37 25 1),(A7 43 0 0),(A7 38 0 4),(A7 40 0 0)]:List Act)))&&(J5 ([27,93,50,59,116,27,92,27,43,48,14]:List UInt8) ([{Act.zero with kind:=44,text:=([116]:List UInt8)},(A7 17 3 1),(A7 7 1 0)]:List Act))))] ?_
 subst hR
 refine ie (A9 ?_)
 exact F2 hr hD
end Go.Proofs.YtanighkpfmgnbaaGreatDoor
set_option linter.unusedVariables false
set_option linter.unusedSimpArgs false
set_option linter.unnecessarySimpa false
set_option maxRecDepth 100000
namespace Go.Proofs.YtanighkpfmgnbaaGreatDoor
open Go Go.Fen
end Go.Proofs.YtanighkpfmgnbaaGreatDoor
set_option linter.unusedVariables false
set_option linter.unusedSimpArgs false
set_option linter.unnecessarySimpa false
set_option maxRecDepth 100000
namespace Go.Proofs.YtanighkpfmgnbaaGreatDoor
open Go Go.Fen
end Go.Proofs.YtanighkpfmgnbaaGreatDoor
set_option linter.unusedVariables false
set_option linter.unusedSimpArgs false
set_option linter.unnecessarySimpa false
set_option maxRecDepth 100000
namespace Go.Proofs.YtanighkpfmgnbaaGreatDoor
open Go Go.Fen
def Y8 (b:List Act):List Act→Nat→Bool
 | [],i=>true
 | hd_l0::tl_l0,i=>(bif (!(decide (hd_l0=(b.getD i Act.zero)))) then false else Y8 b tl_l0 (i+1))
def W3 (a:List Act) (b:List Act):Bool :=
 (bif (!decide ((a.length:Int)=(b.length:Int))) then false else Y8 b a 0)
theorem B8i (a:List Act) (b:List Act) (aq:Option Addr) (ak:Nat) (bq:Option Addr) (bk:Nat) (hla:a.length≤9223372036854775807) (hca:a.length≤ak) (hlb:b.length≤9223372036854775807) (hcb:b.length≤bk) (R:Bool) (hR:W3 a b=R):I4 Tryz.prog 18 [.slice aq a.length ak,.slice bq b.length bk] [sl A4 aq a,sl A4 bq b] (bv R):=by
 refine zco Tryz.func18 [(0,.slice aq a.length ak),(1,.slice bq b.length bk)] fun X hX hr hD=>?_
 replace hR:=(W3.eq_1 ..).symm.trans hR
 refine sr 1 rfl (ip' 1 0 [] ?_)
 refine ie (A8 (sr 5 rfl (ip' 5 0 [(10,bv (!decide ((a.length:Int)=(b.length:Int))))] ?_)))
 refine ie ?_
 refine zjn rfl hR ?_ ?_<;>clear hR<;>intro hR h1 h1p
 ·refine sr 1 rfl (ip' 1 0 [(4,bv false)] ?_)
  subst hR
  refine ie (A9 ?_)
  exact F2 hr hD
 refine A6 (nx (A8 (sr 1 rfl (ip' 1 0 [(5,iv 0)] ?_))))
 refine ie (B3 (C9p (fun (i:Nat)=>(i≤a.length∧Y8 b (a.drop i) i=R,[(0,.slice aq a.length ak),(1,.slice bq b.length bk),(5,iv (i:Int))],[],[sl A4 aq a,sl A4 bq b],a.length - i)) 0 ⟨(by omega),hR⟩ (mk [] rfl) A1.refl ?_))
 rintro i ⟨hm2,hR⟩
 refine A8 (sr 4 rfl (ip' 4 0 [(14,bv (decide ((i:Int)<(a.length:Int))))] ?_))
 refine ie (A1s rfl (fun h3=>?_) (fun h3=>?_))
 ·have h3p:(i:Int)<(a.length:Int):=by simpa using h3
  rw [A4t Act.zero (show i<a.length by omega)] at hR;replace hR:=(Y8.eq_2 ..).symm.trans hR
  refine A6 (nx (A8 (B3 (sd 9 rfl (by kernel_rfl) rfl ?_))))
  refine dp' 2 7 [(17,.slice aq a.length ak),(18,iv (i:Int))] ?_
  refine D4i 0 rfl (by omega) fun a4 hq5=>?_
  refine dd rfl (M4 A4y rfl rfl hq5 rfl i rfl (by omega)) ?_
  refine dd rfl (S3 (us:=A4 (a.getD i Act.zero)) A3l rfl rfl (O2 (c:=A4) (sz:=6) hq5 (fun _=>rfl) 0 rfl (gd Act.zero (by omega))) rfl) ?_
  refine dp' 2 3 [(21,.slice bq b.length bk),(22,iv (i:Int))] ?_
  refine D4i 1 rfl (by omega) fun a6 hq7=>?_
  refine dd rfl (M4 A4y rfl rfl hq7 rfl i rfl (by omega)) ?_
  refine dd rfl (S3 (us:=A4 (b.getD i Act.zero)) A3l rfl rfl (O2 (c:=A4) (sz:=6) hq7 (fun _=>rfl) 1 rfl (gd Act.zero (by omega))) rfl) ?_
  refine dd rfl (A2m (a:=(a.getD i Act.zero)) (b:=(b.getD i Act.zero)) C6w rfl rfl rfl) ?_
  refine de ?_
  refine zjn rfl hR ?_ ?_<;>clear hR<;>intro hR h8 h8p
  ·refine sr 1 rfl (ip' 1 0 [(4,bv false)] ?_)
   subst hR
   refine ie (A9 ?_)
   exact F2 hr hD
  refine A6 (nx (A2 3 rfl (ip' 1 2 [(15,iv (i:Int))] ?_)))
  refine ix rfl (B5 rfl rfl rfl rfl (by omega)) ?_
  refine ip' 1 0 [(5,iv ((i:Int)+1))] ?_
  refine A3 ?_
  exact D0n (z1:=i) (i+1) ⟨(by omega),hR⟩ (by (try dsimp only);omega) (mk [] rfl) A1.refl
 have h3p:¬ ((i:Int)<(a.length:Int)):=by simpa using h3
 rw [A4u h3p] at hR;replace hR:=(Y8.eq_1 ..).symm.trans hR
 refine I3 (nx (sr 1 rfl (ip' 1 0 [(4,bv true)] ?_)))
 subst hR
 refine ie (A9 ?_)
 exact F2 hr hD
theorem D9q {m:Int} {x:List Act} (hm:0≤m) {q:Prop} (h:((0:Int)<((([]:List Act)++x).length:Int))∧q):0≤Int.tmod m ((([]:List Act)++x).length:Int)∧Int.tmod m ((([]:List Act)++x).length:Int)<((([]:List Act)++x).length:Int) :=
 ⟨Int.tmod_nonneg _ hm,Int.tmod_lt_of_pos _ h.1⟩
theorem C2c {x y:List Act} (hx:∀ a ∈ x,a.text.length≤300) (hy:∀ a ∈ y,a.text.length≤300) {k:Nat}:∀ a ∈ (([]:List Act)++x).set k (y.getD 0 Act.zero),a.text.length≤100000000:=fun a ha=>by
 rcases List.mem_or_eq_of_mem_set ha with ha | rfl
 ·exact Nat.le_trans (hx a ha) (by decide)
 ·cases y with
  | nil=>exact Nat.zero_le _
  | cons b y=>exact Nat.le_trans (hy b (List.mem_cons_self ..)) (by decide)
def V8 (y0:List Act) (y2:List Act) (z:List Act):Bool :=
 (B9 (A1b y0) fun (y1:List UInt8×Int)=>(B9 (A1b y2) fun (y3:List UInt8×Int)=>(B9 (A1b z) fun (y4:List UInt8×Int)=>(((((decide (y1.2=0))&&(decide (y3.2=0)))&&(decide (y4.2=0)))&&((decide (y1.1=y3.1)) == (W3 y0 y2)))&&((decide (y1.1=y4.1)) == (W3 y0 z))))))
def A4k (l:List Drf) (m:List Drf) (at_:UInt8):Bool :=
 (bif (!A7a) then false else (B9 (A3p l) fun (y0:List Act)=>(B9 (A3p m) fun (y2:List Act)=>(bif ((decide ((0:Int)<((([]:List Act)++y0).length:Int)))&&(decide ((0:Int)<(y2.length:Int)))) then V8 y0 y2 ((([]:List Act)++y0).set ((Int.tmod (at_.toNat:Int) ((([]:List Act)++y0).length:Int)).toNat) (y2.getD 0 Act.zero)) else V8 y0 y2 (([]:List Act)++y0)))))
theorem B6x (l:List Drf) (m:List Drf) (at_:UInt8) (lq:Option Addr) (lk:Nat) (mq:Option Addr) (mk:Nat) (hll:l.length≤9223372036854775807) (hcl:l.length≤lk) (hlm:m.length≤9223372036854775807) (hcm:m.length≤mk) (hdl:∀ d ∈ l,A9l d) (hdm:∀ d ∈ m,A9l d) (R:Bool) (hR:A4k l m at_=R):I4 Tryz.prog 4 [.slice lq l.length lk,.slice mq m.length mk,.int .u8 (at_.toNat:Int)] [sl L5 lq l,sl L5 mq m,B5f,B5e,Q1,P2,L7,S1] (bv R):=by
 refine zco Tryz.func4 [(0,.slice lq l.length lk),(1,.slice mq m.length mk),(2,.int .u8 (at_.toNat:Int))] fun X hX hr hD=>?_
 replace hR:=(A4k.eq_1 ..).symm.trans hR
 refine sr 1 rfl (ip' 1 0 [] ?_)
 refine ie (A8 (sr 2 rfl (zca (C5d _ rfl) (A1.pick [2,3,4,5,6,7] rfl) ?_)))
 refine ip' 1 0 [(17,bv (!A7a))] ?_
 refine ie ?_
 refine zjb rfl hR ?_ ?_<;>clear hR<;>intro hR h1
 ·refine sr 1 rfl (ip' 1 0 [(6,bv false)] ?_)
  subst hR
  refine ie (A9 ?_)
  exact F2 hr hD
 refine A6 (nx (sr 6 rfl (ip' 1 5 [(18,.slice lq l.length lk)] ?_)))
 have hQ:=D6 hR;clear hR;obtain ⟨y0,hy0,hR⟩:=hQ
 refine it rfl (C2 (L2:=[]) (C0e l lq lk (by first|omega|(simp<;>omega)|(dsimp only;omega)|decide) (by first|omega|(simp<;>omega)|(dsimp only;omega)|decide) (by first|assumption|omega) y0 hy0) rfl rfl rfl rfl rfl (A1.pick [0] rfl) (List.Perm.refl _) (fun ⟨r2,hk3⟩=>((vo A4 26 r2 y0)++([]))) (fun _=>by first|rfl|simp only [List.append_nil,List.cons_append,List.nil_append,List.append_assoc])) fun ⟨r2,hk3⟩=>?_
 have:=VOk.le hk3
 have:=VOk.cap hk3
 have hrow:=B4b l;rw [hy0] at hrow
 have hrlen:=A6p l;rw [hy0] at hrlen
 refine A3u [] [] (T:=26) (c:=A4) (r:=r2) (xs:=y0) hk3 (by first|rfl|simp only [List.cons_append,List.append_assoc,List.nil_append,List.append_nil]) ?_
 refine ip' 1 3 [(20,.slice mq m.length mk)] ?_
 have hQ:=D6 hR;clear hR;obtain ⟨y2,hy2,hR⟩:=hQ
 refine it rfl (C2 (L2:=[]) (C0e m mq mk (by first|omega|(simp<;>omega)|(dsimp only;omega)|decide) (by first|omega|(simp<;>omega)|(dsimp only;omega)|decide) (by first|assumption|omega) y2 hy2) rfl rfl rfl rfl rfl (A1.pick [2] rfl) (List.Perm.refl _) (fun ⟨r4,hk5⟩=>((vo A4 26 r4 y2)++([]))) (fun _=>by first|rfl|simp only [List.append_nil,List.cons_append,List.nil_append,List.append_assoc])) fun ⟨r4,hk5⟩=>?_
 have:=VOk.le hk5
 have:=VOk.cap hk5
 have hrow:=B4b m;rw [hy2] at hrow
 have hrlen:=A6p m;rw [hy2] at hrlen
 refine A3u [] [] (T:=26) (c:=A4) (r:=r4) (xs:=y2) hk5 (by first|rfl|simp only [List.cons_append,List.append_assoc,List.nil_append,List.append_nil]) ?_
 refine ip' 2 0 [(7,.slice (va r2.q) y0.length r2.k),(8,.slice (va r4.q) y2.length r4.k)] ?_
 refine ie (sr 4 rfl (it rfl (B1z A4y rfl rfl) fun b6=>?_))
 have:([]:List Act).length=0:=rfl
 refine ip' 1 2 [(23,.slice (va r2.q) y0.length r2.k)] ?_
 refine it rfl (B1l (f:=A4) (r:=(⟨some b6,0,[]⟩:VR)) (xs:=([]:List Act)) (ys:=y0) (pre:=[]) (post:=[]) E2o (fun _=>rfl) (fun _=>rfl) rfl rfl rfl rfl rfl rfl rfl rfl (B1 1 rfl) (show VOk 6 0 _ from ⟨rfl,Nat.zero_le _,Nat.zero_le _⟩) (by first|omega|(simp<;>omega)) (by first|omega|(simp<;>omega))) fun ⟨r7,hr8⟩=>?_
 have:=VOk.le hr8
 have:=VOk.cap hr8
 refine ip' 1 0 [(9,.slice (va r7.q) ((([]:List Act)++y0).length) r7.k)] ?_
 refine ie (E8g (fun (z:List Act) (zr:VR)=>(V8 y0 y2 z=R∧VOk 6 z.length zr∧z=z∧(∀ a ∈ y0,a.text.length≤100000000)∧z=z∧(∀ a ∈ y2,a.text.length≤100000000)∧z=z∧(∀ a ∈ z,a.text.length≤100000000),[(7,.slice (va r2.q) y0.length r2.k),(8,.slice (va r4.q) y2.length r4.k),(9,.slice (va zr.q) z.length zr.k)],((vo A4 26 zr z)++([])),[sl A4 (va r4.q) y2,sl A4 (va r2.q) y0,sl L5 lq l,sl L5 mq m,B5f,B5e,Q1,P2,L7,S1])) ?_ ?_)
 ·refine sr 8 rfl (ip' 4 4 [(28,bv (decide ((0:Int)<((([]:List Act)++y0).length:Int))))] ?_)
  refine zid 4 0 28 32 (decide ((0:Int)<(y2.length:Int))) (fun g9 g9p=>?_) ?_
  ·refine ip' 4 0 [(32,bv (decide ((0:Int)<(y2.length:Int))))] ?_
   exact A3 (L6 2 28 32 g9 A1.refl (mc [vo A4 26 r7 (([]:List Act)++y0)] [true] rfl (by first|rfl|(simp only [List.length_set]<;>rfl))) rfl rfl rfl rfl rfl)
  refine ie ?_
  refine zja rfl hR ?_ ?_<;>clear hR<;>intro hR h10 h10p
  ·have htn:=D9q (m:=(at_.toNat:Int)) (Int.natCast_nonneg _) h10p
   refine sh' 11 [(10,vo A4 26 r7 (([]:List Act)++y0))] [sl A4 (va r4.q) y2,sl A4 (va r2.q) y0,sl L5 lq l,sl L5 mq m,B5f,B5e,Q1,P2,L7,S1] ((vo A4 26 r7 (([]:List Act)++y0))++([])) (zml 11 0) (by kernel_rfl) rfl (by kernel_rfl) (by kernel_rfl) (by kernel_rfl) (mc [vo A4 26 r7 (([]:List Act)++y0)] [true] rfl (by first|rfl|(simp only [List.length_set]<;>rfl))) A1.refl ?_
   refine zhp [0,1,3,4,6] 6 (zml 11 91) [(33,.slice (va r7.q) ((([]:List Act)++y0).length) r7.k),(34,.int .u8 (at_.toNat:Int)),(37,iv ((([]:List Act)++y0).length:Int)),(39,.slice (va r4.q) y2.length r4.k)] ?_
   refine zhk 2 (zml 11 95) rfl (N8 (c:=(at_.toNat:Int)) Tryz.underlying3 (by kernel_rfl) rfl rfl (X3 at_)) ?_
   refine zhk 5 (zml 11 127) rfl (B2b rfl rfl rfl (by first|omega|exact C7s (by decide) (by first|omega|(simp<;>omega))|omega) rfl) ?_
   refine D5c 0 rfl (by omega) fun a11 hq12=>?_
   refine zhk 7 (zml 11 255) rfl (M4 A4y rfl rfl hq12 rfl 0 rfl (by omega)) ?_
   refine zhk 8 (zml 11 511) rfl (S3 (us:=A4 (y2.getD 0 Act.zero)) A3l rfl rfl (O2 (c:=A4) (sz:=6) hq12 (fun _=>rfl) 0 rfl (gd Act.zero (by omega))) rfl) ?_
   obtain ⟨b13,hb14⟩:=VOk.some hr8 (by omega)
   obtain ⟨q15,k16,j17⟩:=r7
   obtain rfl:q15=some b13:=hb14
   refine zhl 9 ((vo A4 26 (⟨some b13,k16,j17⟩:VR) (([]:List Act)++y0))++([])) (zml 11 1023) rfl (A6a A4y rfl rfl rfl ((Int.tmod (at_.toNat:Int) ((([]:List Act)++y0).length:Int)).toNat) (by omega) (by omega)) ?_
   refine zho 10 [] (zml 11 2047) rfl (B0s (us:=A4 (y2.getD 0 Act.zero)) (u':=(y2.getD 0 Act.zero)) (c:=A4) (sz:=6) A3l (fun _=>rfl) rfl rfl rfl 0 rfl rfl rfl rfl ((Int.tmod (at_.toNat:Int) ((([]:List Act)++y0).length:Int)).toNat) 0 rfl (gd Act.zero (by omega)) rfl rfl) (fun _=>(List.nil_sublist _)) (fun _=>A1.refl) fun _=>?_
   refine B4w (by kernel_rfl) ?_
   exact E5v ((([]:List Act)++y0).set ((Int.tmod (at_.toNat:Int) ((([]:List Act)++y0).length:Int)).toNat) (y2.getD 0 Act.zero)) (⟨some b13,k16,j17⟩:VR) ⟨hR,(VOk.cast hr8 (by simp)),(by rfl),(by exact fun x hx=>Nat.le_trans ((by assumption:∀ a ∈ y0,a.text.length≤300) x hx) (by decide)),(by rfl),(by exact fun x hx=>Nat.le_trans ((by assumption:∀ a ∈ y2,a.text.length≤300) x hx) (by decide)),(by rfl),(by first|exact C2c (by assumption) (by assumption)|exact fun x hx=>Nat.le_trans ((by assumption:∀ a ∈ y0,a.text.length≤300) x hx) (by decide))⟩ (mc [vo A4 26 (⟨some b13,k16,j17⟩:VR) ((([]:List Act)++y0).set ((Int.tmod (at_.toNat:Int) ((([]:List Act)++y0).length:Int)).toNat) (y2.getD 0 Act.zero))] [true] rfl (by first|rfl|(simp only [List.length_set]<;>rfl))) A1.refl
  refine A6 ?_
  exact E5v (([]:List Act)++y0) r7 ⟨hR,hr8,(by rfl),(by exact fun x hx=>Nat.le_trans ((by assumption:∀ a ∈ y0,a.text.length≤300) x hx) (by decide)),(by rfl),(by exact fun x hx=>Nat.le_trans ((by assumption:∀ a ∈ y2,a.text.length≤300) x hx) (by decide)),(by rfl),(by first|exact C2c (by assumption) (by assumption)|exact fun x hx=>Nat.le_trans ((by assumption:∀ a ∈ y0,a.text.length≤300) x hx) (by decide))⟩ (mc [vo A4 26 r7 (([]:List Act)++y0)] [true] rfl (by first|rfl|(simp only [List.length_set]<;>rfl))) A1.refl
 intro z zr
 rintro ⟨hR,hokzr,hz1,hk1,hz2,hk2,hz3,hk3⟩
 replace hR:=(V8.eq_1 ..).symm.trans hR
 refine sr 7 rfl (ip' 1 6 [(44,.slice (va r2.q) y0.length r2.k)] ?_)
 have hQ:=D6 hR;clear hR;obtain ⟨y1,hy1,hR⟩:=hQ
 refine it rfl (C2 (L2:=((vo A4 26 zr z)++([]))) (A8k y0 (va r2.q) r2.k (by first|omega|(simp<;>omega)|(dsimp only;omega)|decide) (by first|omega|(simp<;>omega)|(dsimp only;omega)|decide) (by first|assumption|decide|exact fun x hx=>Nat.le_trans (hrow x hx) (by decide)|exact fun x hx=>Nat.le_trans (of_decide_eq_true (List.all_eq_true.1 hbt x hx)) (by decide)|(intro x hx;simp only [List.nil_append,List.mem_append] at hx;rcases hx with hx|hx<;>first|exact Nat.le_trans (hrow x hx) (by decide)|exact Nat.le_trans (hpt x hx) (by decide))|(intro x hx;rw [List.mem_singleton.1 hx];omega)|exact fun x hx=>Nat.le_trans (hrow x (List.mem_of_mem_take hx)) (by decide)|exact fun x hx=>Nat.le_trans (hrow x (List.mem_of_mem_drop hx)) (by decide)|exact fun x hx=>Nat.le_trans (hrow x (List.mem_of_mem_drop (List.mem_of_mem_take hx))) (by decide)|omega) y1 hy1) rfl rfl rfl rfl rfl (A1.pick [1,4,5,6,7,8,9] rfl) (List.Perm.refl _) (fun ⟨r18,hk19⟩=>((vo cU8 5 r18 y1.1)++((vo A4 26 zr z)++([])))) (fun _=>by first|rfl|simp only [List.append_nil,List.cons_append,List.nil_append,List.append_assoc])) fun ⟨r18,hk19⟩=>?_
 have:=VOk.le hk19
 have:=VOk.cap hk19
 try have:=A5m y0 (fun x hx=>Nat.le_trans (hrow x (by first|exact hx|exact List.mem_of_mem_take hx|exact List.mem_of_mem_drop hx)) (by decide));try rw [hy1] at this
 refine A3u [] ((vo A4 26 zr z)++([])) (T:=5) (c:=cU8) (r:=r18) (xs:=y1.1) hk19 (by first|rfl|simp only [List.cons_append,List.append_assoc,List.nil_append,List.append_nil]) ?_
 refine ip' 5 0 [(10,.slice (va r18.q) y1.1.length r18.k),(11,iv y1.2)] ?_
 refine ie (sr 7 rfl (ip' 1 6 [(49,.slice (va r4.q) y2.length r4.k)] ?_))
 have hQ:=D6 hR;clear hR;obtain ⟨y3,hy3,hR⟩:=hQ
 refine it rfl (C2 (L2:=((vo A4 26 zr z)++([]))) (A8k y2 (va r4.q) r4.k (by first|omega|(simp<;>omega)|(dsimp only;omega)|decide) (by first|omega|(simp<;>omega)|(dsimp only;omega)|decide) (by first|assumption|decide|exact fun x hx=>Nat.le_trans (hrow x hx) (by decide)|exact fun x hx=>Nat.le_trans (of_decide_eq_true (List.all_eq_true.1 hbt x hx)) (by decide)|(intro x hx;simp only [List.nil_append,List.mem_append] at hx;rcases hx with hx|hx<;>first|exact Nat.le_trans (hrow x hx) (by decide)|exact Nat.le_trans (hpt x hx) (by decide))|(intro x hx;rw [List.mem_singleton.1 hx];omega)|exact fun x hx=>Nat.le_trans (hrow x (List.mem_of_mem_take hx)) (by decide)|exact fun x hx=>Nat.le_trans (hrow x (List.mem_of_mem_drop hx)) (by decide)|exact fun x hx=>Nat.le_trans (hrow x (List.mem_of_mem_drop (List.mem_of_mem_take hx))) (by decide)|omega) y3 hy3) rfl rfl rfl rfl rfl (A1.pick [1,5,6,7,8,9,10] rfl) (List.Perm.refl _) (fun ⟨r20,hk21⟩=>((vo cU8 5 r20 y3.1)++((vo A4 26 zr z)++([])))) (fun _=>by first|rfl|simp only [List.append_nil,List.cons_append,List.nil_append,List.append_assoc])) fun ⟨r20,hk21⟩=>?_
 have:=VOk.le hk21
 have:=VOk.cap hk21
 try have:=A5m y2 (fun x hx=>Nat.le_trans (hrow x (by first|exact hx|exact List.mem_of_mem_take hx|exact List.mem_of_mem_drop hx)) (by decide));try rw [hy3] at this
 refine A3u [] ((vo A4 26 zr z)++([])) (T:=5) (c:=cU8) (r:=r20) (xs:=y3.1) hk21 (by first|rfl|simp only [List.cons_append,List.append_assoc,List.nil_append,List.append_nil]) ?_
 refine ip' 5 0 [(12,.slice (va r20.q) y3.1.length r20.k),(13,iv y3.2)] ?_
 refine ie (sr 7 rfl (ip' 1 6 [(54,.slice (va zr.q) z.length zr.k)] ?_))
 have:=VOk.cap hokzr
 have:=VOk.le hokzr
 refine A3u [] [] (T:=26) (c:=A4) (r:=zr) (xs:=z) hokzr (by first|rfl|simp only [List.cons_append,List.append_assoc,List.nil_append,List.append_nil]) ?_
 have hQ:=D6 hR;clear hR;obtain ⟨y4,hy4,hR⟩:=hQ
 refine it rfl (C2 (L2:=[]) (A8k z (va zr.q) zr.k (by first|omega|(simp<;>omega)|(dsimp only;omega)|decide) (by first|omega|(simp<;>omega)|(dsimp only;omega)|decide) (by first|assumption|decide|exact fun x hx=>Nat.le_trans (hrow x hx) (by decide)|exact fun x hx=>Nat.le_trans (of_decide_eq_true (List.all_eq_true.1 hbt x hx)) (by decide)|(intro x hx;simp only [List.nil_append,List.mem_append] at hx;rcases hx with hx|hx<;>first|exact Nat.le_trans (hrow x hx) (by decide)|exact Nat.le_trans (hpt x hx) (by decide))|(intro x hx;rw [List.mem_singleton.1 hx];omega)|exact fun x hx=>Nat.le_trans (hrow x (List.mem_of_mem_take hx)) (by decide)|exact fun x hx=>Nat.le_trans (hrow x (List.mem_of_mem_drop hx)) (by decide)|exact fun x hx=>Nat.le_trans (hrow x (List.mem_of_mem_drop (List.mem_of_mem_take hx))) (by decide)|omega) y4 hy4) rfl rfl rfl rfl rfl (A1.pick [0,7,8,9,10,11,12] rfl) (List.Perm.refl _) (fun ⟨r22,hk23⟩=>((vo cU8 5 r22 y4.1)++([]))) (fun _=>by first|rfl|simp only [List.append_nil,List.cons_append,List.nil_append,List.append_assoc])) fun ⟨r22,hk23⟩=>?_
 have:=VOk.le hk23
 have:=VOk.cap hk23
 try have:=A5m z (fun x hx=>Nat.le_trans (hrow x (by first|exact hx|exact List.mem_of_mem_take hx|exact List.mem_of_mem_drop hx)) (by decide));try rw [hy4] at this
 refine A3u [] [] (T:=5) (c:=cU8) (r:=r22) (xs:=y4.1) hk23 (by first|rfl|simp only [List.cons_append,List.append_assoc,List.nil_append,List.append_nil]) ?_
 refine ip' 5 0 [(14,.slice (va r22.q) y4.1.length r22.k),(15,iv y4.2)] ?_
 refine ie (sd 33 rfl (by kernel_rfl) rfl ?_)
 refine dp' 3 30 [(60,bv (decide (y1.2=0)))] ?_
 refine zdd 3 27 60 63 (decide (y3.2=0)) (fun g24 g24p=>?_) ?_
 ·refine dp' 3 0 [(63,bv (decide (y3.2=0)))] ?_
  exact zad 2 60 63 g24
 refine dp' 1 26 [(64,bv ((decide (y1.2=0))&&(decide (y3.2=0))))] ?_
 refine zda 3 23 64 67 (decide (y4.2=0)) (fun g25=>?_) ?_
 ·have g25p:(y1.2=0)∧(y3.2=0):=by simpa using g25
  refine dp' 3 0 [(67,bv (decide (y4.2=0)))] ?_
  exact zad 2 64 67 g25
 refine dp' 1 22 [(68,bv (((decide (y1.2=0))&&(decide (y3.2=0)))&&(decide (y4.2=0))))] ?_
 refine zda 10 12 68 78 ((decide (y1.1=y3.1)) == (W3 y0 y2)) (fun g26=>?_) ?_
 ·have g26p:((y1.2=0)∧(y3.2=0))∧(y4.2=0):=by simpa using g26
  refine dp' 1 9 [(69,.slice (va r18.q) y1.1.length r18.k)] ?_
  refine dd rfl (A4i Tryz.underlying9 Tryz.underlying30 rfl rfl (B1 3 rfl) rfl (by kernel_rfl)) ?_
  refine dp' 1 7 [(71,.slice (va r20.q) y3.1.length r20.k)] ?_
  refine dd rfl (A4i Tryz.underlying9 Tryz.underlying30 rfl rfl (B1 2 rfl) rfl (by kernel_rfl)) ?_
  refine dd rfl (B1h rfl rfl rfl) ?_
  refine dp' 2 3 [(74,.slice (va r2.q) y0.length r2.k),(75,.slice (va r4.q) y2.length r4.k)] ?_
  refine zcd (B8i y0 y2 (va r2.q) r2.k (va r4.q) r4.k (by first|omega|(simp<;>omega)|(dsimp only;omega)|decide) (by first|omega|(simp<;>omega)|(dsimp only;omega)|decide) (by first|omega|(simp<;>omega)|(dsimp only;omega)|decide) (by first|omega|(simp<;>omega)|(dsimp only;omega)|decide) _ rfl) (A1.pick [5,4] rfl) ?_
  refine dd rfl (D3y Tryz.underlying4 rfl rfl rfl) ?_
  refine dp' 1 0 [(78,bv ((decide (y1.1=y3.1)) == (W3 y0 y2)))] ?_
  exact zad 11 68 78 g26
 refine dp' 1 11 [(79,bv ((((decide (y1.2=0))&&(decide (y3.2=0)))&&(decide (y4.2=0)))&&((decide (y1.1=y3.1)) == (W3 y0 y2))))] ?_
 refine zda 10 1 79 89 ((decide (y1.1=y4.1)) == (W3 y0 z)) (fun g27=>?_) ?_
 ·have g27p:=g27;try simp at g27p
  refine dp' 1 9 [(80,.slice (va r18.q) y1.1.length r18.k)] ?_
  refine dd rfl (A4i Tryz.underlying9 Tryz.underlying30 rfl rfl (B1 3 rfl) rfl (by kernel_rfl)) ?_
  refine dp' 1 7 [(82,.slice (va r22.q) y4.1.length r22.k)] ?_
  refine dd rfl (A4i Tryz.underlying9 Tryz.underlying30 rfl rfl (B1 0 rfl) rfl (by kernel_rfl)) ?_
  refine dd rfl (B1h rfl rfl rfl) ?_
  refine dp' 2 3 [(85,.slice (va r2.q) y0.length r2.k),(86,.slice (va zr.q) z.length zr.k)] ?_
  refine zcd (B8i y0 z (va r2.q) r2.k (va zr.q) zr.k (by first|omega|(simp<;>omega)|(dsimp only;omega)|decide) (by first|omega|(simp<;>omega)|(dsimp only;omega)|decide) (by first|omega|(simp<;>omega)|(dsimp only;omega)|decide) (by first|omega|(simp<;>omega)|(dsimp only;omega)|decide) _ rfl) (A1.pick [5,1] rfl) ?_
  refine dd rfl (D3y Tryz.underlying4 rfl rfl rfl) ?_
  refine dp' 1 0 [(89,bv ((decide (y1.1=y4.1)) == (W3 y0 z)))] ?_
  exact zad 11 79 89 g27
 refine dp' 1 0 [(6,bv (((((decide (y1.2=0))&&(decide (y3.2=0)))&&(decide (y4.2=0)))&&((decide (y1.1=y3.1)) == (W3 y0 y2)))&&((decide (y1.1=y4.1)) == (W3 y0 z))))] ?_
 subst hR
 refine de (A9 ?_)
 exact F2 hr hD
end Go.Proofs.YtanighkpfmgnbaaGreatDoor
