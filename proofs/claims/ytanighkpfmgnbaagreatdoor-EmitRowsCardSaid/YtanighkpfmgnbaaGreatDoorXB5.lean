import Derived.Test.YtanighkpfmgnbaaGreatDoorProg
import Derived.Test.YtanighkpfmgnbaaGreatDoorXA2
import Derived.Test.YtanighkpfmgnbaaGreatDoorXB1
import Derived.Test.YtanighkpfmgnbaaGreatDoorXA3
import Derived.Test.YtanighkpfmgnbaaGreatDoorXB2
import Derived.Test.YtanighkpfmgnbaaGreatDoorXB3
import Derived.Test.YtanighkpfmgnbaaGreatDoorXB4
set_option linter.unusedVariables false
set_option linter.unusedSimpArgs false
set_option linter.unnecessarySimpa false
set_option maxRecDepth 100000
namespace Go.Proofs.YtanighkpfmgnbaaGreatDoor
open Go Go.Fen
theorem C0p:ApTy Tryz.prog 27 26 6 56:=⟨by kernel_rfl,by kernel_rfl,rfl⟩
theorem E5j:SlTy Tryz.prog 22 41 5:=⟨by kernel_rfl,by kernel_rfl⟩
theorem D7t:Ty Tryz.prog 38 1 false:=⟨by kernel_rfl⟩
theorem E7c:Ty Tryz.prog 39 1 false:=⟨by kernel_rfl⟩
theorem E6r:Ty Tryz.prog 41 5 true:=⟨by kernel_rfl⟩
theorem C0m {P:Program} {X:Cx} {E:Env} {L:Fen.Own} {Φ:List Pers} {o:Oper} {T e sz b:Nat} {x y:Operand} {len cap:Nat} {kd:IntKind} {m:Int} (hT:SlTy P T e sz) (ho:o.op=.indexAddr T x y)
  (hx:ev E x=some (.slice (some ⟨b,0,none⟩) len cap)) (hy:ev E y=some (.int kd m)) (k:Nat) (hk:m=k) (hl:k<len):G4 P X o E L Φ (.pointer (some ⟨b,k * sz,none⟩)):=.of_run fun ac w ha _=>by
 subst hk
 have h1:(0:Int)≤k∧(k:Int)<len:=by omega
 simp [execOp,ho,C1 ha hx,C1 ha hy,Instr.indexAt,asIntOf,run_underlying hT.ty,hT.run,h1,Nat.not_le.2 hl,A0s]
def B3h (d:Drf):Prop:=(0≤d.kind∧d.kind≤65535)∧(0≤d.n∧d.n≤65535)∧(0≤d.m∧d.m≤65535)∧(0≤d.rgb∧d.rgb≤4294967295)
def A1c (d:Drf) (t42:Bool):Act :=
 (bif t42 then (bif (decide ((d.m % 4)=1)) then {Act.zero with kind:=39,n:=(d.n % 7),color:=(⟨2,(d.rgb % 16777216)⟩:Col)} else (bif (decide ((d.m % 4)=2)) then {Act.zero with kind:=39,n:=(d.n % 7),color:=(⟨1,(d.rgb % 256)⟩:Col)} else (bif (decide ((d.m % 4)=3)) then {Act.zero with kind:=39,n:=(d.n % 7),color:=(⟨1,(d.rgb % 18)⟩:Col)} else {Act.zero with kind:=39,n:=(d.n % 7)}))) else {Act.zero with kind:=39,n:=(d.n % 7)})
def A4o (d:Drf):Act :=
 (bif (decide ((d.n % 7)=1)) then {Act.zero with kind:=39,n:=(d.n % 7),m:=((([4,8,16,32,64,128]:List Int)++([1,2]:List Int)).getD ((d.m % 8).toNat) 0)} else (bif (decide ((d.n % 7)=2)) then {Act.zero with kind:=39,n:=(d.n % 7),m:=((([4,8,16,32,64,128]:List Int)++([3]:List Int)).getD ((d.m % 7).toNat) 0)} else (bif (decide ((d.n % 7)=3)) then {Act.zero with kind:=39,n:=(d.n % 7),m:=(d.m % 6)} else (bif (decide ((d.n % 7)=4)) then A1c d (decide ((d.n % 7)=4)) else (bif (decide ((d.n % 7)=5)) then A1c d (decide ((d.n % 7)=5)) else A1c d (decide ((d.n % 7)=6)))))))
theorem D1s (d:Drf) (hd:B3h d) (R:Act) (hR:A4o d=R):I5 Tryz.prog 44 [ag (M5 d)] [] (ag (A0 R)):=by
 refine zco Tryz.func44 [(0,ag (M5 d))] fun X hX hr hD=>?_
 replace hR:=(A4o.eq_1 ..).symm.trans hR
 have hdi:=hd;unfold B3h at hdi
 have hl8:(([4,8,16,32,64,128]:List Int)++([1,2]:List Int)).length=8:=rfl
 have hl7:(([4,8,16,32,64,128]:List Int)++([3]:List Int)).length=7:=rfl
 refine sr 2 rfl (C5o 2 0 [] (fun b1 b2=>[(1,pt b1 0),(2,pt b2 0)]) (fun b1 b2=>[bx b2 (A0 Act.zero) 26,bx b1 (M5 d) 41]) (fun b1 b2=>(ie (sr 7 rfl (zrl 2 5 [1] [(6,.int .u16 d.n)] (ix rfl (V6 (c:=(d.n % 7)) rfl rfl rfl (by decide) (by omega)) (ix rfl (N8 (c:=(d.n % 7)) Tryz.underlying3 (by kernel_rfl) rfl rfl (O8 (by first|(simp [IntKind.min,IntKind.signed,IntKind.bits];omega)|(simp [IntKind.max,IntKind.signed,IntKind.bits];omega)) (by first|(simp [IntKind.min,IntKind.signed,IntKind.bits];omega)|(simp [IntKind.max,IntKind.signed,IntKind.bits];omega)))) ?_)))))))
 refine O5 3 0 [0] (fun b3=>[(3,pt b3 0)]) (fun b3=>[bx b3 (A0 ({Act.zero with kind:=39,n:=(d.n % 7)})) 26,bx b2 (A0 Act.zero) 26,bx b1 (M5 d) 41]) (fun b3=>?_)
 refine ie (sr 3 rfl (O5 3 0 [0] (fun b4=>[(4,pt b4 0)]) (fun b4=>[bx b4 [iv 4,iv 8,iv 16,iv 32,iv 64,iv 128] 147,bx b3 (A0 ({Act.zero with kind:=39,n:=(d.n % 7)})) 26,bx b2 (A0 Act.zero) 26,bx b1 (M5 d) 41]) (fun b4=>(ie (A7 (sr 2 rfl (zrl 2 0 [1] [(12,iv (d.n % 7))] (ie (B1 (sr 2 rfl (ip' 2 0 [(13,bv (decide ((d.n % 7)=1)))] (ie ?_))))))))))))
 refine zjd rfl hR ?_ ?_<;>clear hR<;>intro hR h5 h5p
 ·refine E1u 0 rfl ?_
  refine B3v (show Y0 _ (sl D8 (some ⟨b4,0,none⟩) ([4,8,16,32,64,128]:List Int)) from A9 0 rfl) ?_
  refine sh' 10 [(9,[bx b3 (A0 ({Act.zero with kind:=39,n:=(d.n % 7)})) 26]),(10,[bx b2 (A0 Act.zero) 26]),(10,[bx b1 (M5 d) 41])] [sl D8 (some ⟨b4,0,none⟩) ([4,8,16,32,64,128]:List Int),at_ ⟨b4,0,none⟩ [iv 4,iv 8,iv 16,iv 32,iv 64,iv 128]] [bx b3 (A0 ({Act.zero with kind:=39,n:=(d.n % 7)})) 26,bx b2 (A0 Act.zero) 26,bx b1 (M5 d) 41] (zml 10 0) (by kernel_rfl) rfl (by kernel_rfl) (by kernel_rfl) (by kernel_rfl) (mk [true,true,true] rfl) A1.refl ?_
  refine zhp [3] 9 (zml 10 8) [(18,pt b1 2)] ?_
  refine zhk 0 (zml 10 9) rfl (B3t Tryz.underlying147 ty3 rfl rfl) ?_
  have:([4,8,16,32,64,128]:List Int).length=6:=rfl
  refine zhl 4 [bx b3 (A0 ({Act.zero with kind:=39,n:=(d.n % 7)})) 26,bx b2 (A0 Act.zero) 26,bx b1 (M5 d) 41] (zml 10 25) rfl (B6 (v:=.int .u16 d.m) D7t rfl rfl 2 rfl rfl) ?_
  refine zhk 5 (zml 10 57) rfl (V6 (c:=(d.m % 8)) rfl rfl rfl (by decide) (by omega)) ?_
  refine zho 1 [bx b3 (A0 ({Act.zero with kind:=39,n:=(d.n % 7)})) 26,bx b2 (A0 Act.zero) 26,bx b1 (M5 d) 41] (zml 10 59) rfl (B4 (c:=D8) (xs:=([1,2]:List Int)) F8 rfl rfl rfl (by kernel_rfl)) (fun b6=>(mk [true,true,true] rfl)) (fun b6=>(A1.pick [1,2] rfl)) fun b6=>?_
  have:([1,2]:List Int).length=2:=rfl
  refine zho 2 [bx b3 (A0 ({Act.zero with kind:=39,n:=(d.n % 7)})) 26,bx b2 (A0 Act.zero) 26,bx b1 (M5 d) 41] (zml 10 63) rfl (C3a (f:=D8) (xs:=([4,8,16,32,64,128]:List Int)) (ys:=([1,2]:List Int)) B7e (fun _=>rfl) (fun _=>rfl) rfl rfl rfl rfl rfl rfl (by omega) (by omega) (by rfl) (A9 1 rfl) (A9 0 rfl) (by simp) (by first|omega|(simp<;>omega)) (by first|omega|(simp<;>omega))) (fun ⟨r7,hr8⟩=>(mc [[bx b3 (A0 ({Act.zero with kind:=39,n:=(d.n % 7)})) 26],[bx b2 (A0 Act.zero) 26],[bx b1 (M5 d) 41],vo D8 3 r7 (([4,8,16,32,64,128]:List Int)++([1,2]:List Int))] [true,true,true,false] rfl (by first|rfl|(simp only [List.length_set]<;>rfl)))) (fun ⟨r7,hr8⟩=>(A1.pick [1,2] rfl)) fun ⟨r7,hr8⟩=>?_
  have:=VOk.le hr8
  have:=VOk.cap hr8
  obtain ⟨b9,hb10⟩:=VOk.some hr8 (by omega)
  obtain ⟨q11,k12,j13⟩:=r7
  obtain rfl:q11=some b9:=hb10
  refine zhl 6 [bx b3 (A0 ({Act.zero with kind:=39,n:=(d.n % 7)})) 26,bx b2 (A0 Act.zero) 26,bx b1 (M5 d) 41] (zml 10 127) rfl (C0m F8 rfl rfl rfl ((d.m % 8).toNat) (by omega) (by omega)) ?_
  refine zho 7 [bx b3 (A0 ({Act.zero with kind:=39,n:=(d.n % 7)})) 26,bx b2 (A0 Act.zero) 26,bx b1 (M5 d) 41] (zml 10 255) rfl (Det.tri (G4.det (N5 (u:=iv ((([4,8,16,32,64,128]:List Int)++([1,2]:List Int)).getD ((d.m % 8).toNat) 0)) (c:=D8) (sz:=1) ty3 (fun _=>rfl) rfl rfl 3 rfl ((d.m % 8).toNat) 0 rfl (gd 0 (by omega)) rfl))) (fun _=>(mc [[bx b3 (A0 ({Act.zero with kind:=39,n:=(d.n % 7)})) 26],[bx b2 (A0 Act.zero) 26],[bx b1 (M5 d) 41],vo D8 3 (⟨some b9,k12,j13⟩:VR) (([4,8,16,32,64,128]:List Int)++([1,2]:List Int))] [true,true,true,false] rfl (by first|rfl|(simp only [List.length_set]<;>rfl)))) (fun _=>(A1.pick [1,2] rfl)) fun _=>?_
  refine zhp [8] 1 (zml 10 511) [(23,pt b3 2)] ?_
  refine zho 9 [bx b2 (A0 Act.zero) 26,bx b1 (M5 d) 41] (zml 10 1023) rfl (P0 (us:=[iv ((([4,8,16,32,64,128]:List Int)++([1,2]:List Int)).getD ((d.m % 8).toNat) 0)]) (cs':=A0 ({Act.zero with kind:=39,n:=(d.n % 7),m:=((([4,8,16,32,64,128]:List Int)++([1,2]:List Int)).getD ((d.m % 8).toNat) 0)})) ty3 rfl rfl rfl 0 rfl rfl rfl rfl rfl rfl) (fun _=>(mc [[bx b3 (A0 ({Act.zero with kind:=39,n:=(d.n % 7),m:=((([4,8,16,32,64,128]:List Int)++([1,2]:List Int)).getD ((d.m % 8).toNat) 0)})) 26],[bx b2 (A0 Act.zero) 26],[bx b1 (M5 d) 41],vo D8 3 (⟨some b9,k12,j13⟩:VR) (([4,8,16,32,64,128]:List Int)++([1,2]:List Int))] [false,true,true,false] rfl (by first|rfl|(simp only [List.length_set]<;>rfl)))) (fun _=>(A1.pick [1,2] rfl)) fun _=>?_
  refine B6h (by kernel_rfl) ?_
  refine nx (sr 2 rfl (zrg 2 0 [0,1] [] (bx b3 (A0 ({Act.zero with kind:=39,n:=(d.n % 7),m:=((([4,8,16,32,64,128]:List Int)++([1,2]:List Int)).getD ((d.m % 8).toNat) 0)})) 26::bx b2 (A0 ({Act.zero with kind:=39,n:=(d.n % 7),m:=((([4,8,16,32,64,128]:List Int)++([1,2]:List Int)).getD ((d.m % 8).toNat) 0)})) 26::bx b1 (M5 d) 41::(vo D8 3 (⟨some b9,k12,j13⟩:VR) (([4,8,16,32,64,128]:List Int)++([1,2]:List Int)))++([])) ?_))
  subst hR
  refine ie (A5 ?_)
  exact zer hr hD (M3 rfl (D4 (us:=A0 ({Act.zero with kind:=39,n:=(d.n % 7),m:=((([4,8,16,32,64,128]:List Int)++([1,2]:List Int)).getD ((d.m % 8).toNat) 0)})) A3a rfl 1 rfl rfl rfl)) () (List.nil_sublist _) fn0
 refine sr 2 rfl (ip' 2 0 [(24,bv (decide ((d.n % 7)=2)))] (ie ?_))
 refine zjd rfl hR ?_ ?_<;>clear hR<;>intro hR h14 h14p
 ·refine E1u 0 rfl ?_
  refine B3v (show Y0 _ (sl D8 (some ⟨b4,0,none⟩) ([4,8,16,32,64,128]:List Int)) from A9 0 rfl) ?_
  refine sh' 10 [(9,[bx b3 (A0 ({Act.zero with kind:=39,n:=(d.n % 7)})) 26]),(10,[bx b2 (A0 Act.zero) 26]),(10,[bx b1 (M5 d) 41])] [sl D8 (some ⟨b4,0,none⟩) ([4,8,16,32,64,128]:List Int),at_ ⟨b4,0,none⟩ [iv 4,iv 8,iv 16,iv 32,iv 64,iv 128]] [bx b3 (A0 ({Act.zero with kind:=39,n:=(d.n % 7)})) 26,bx b2 (A0 Act.zero) 26,bx b1 (M5 d) 41] (zml 10 0) (by kernel_rfl) rfl (by kernel_rfl) (by kernel_rfl) (by kernel_rfl) (mk [true,true,true] rfl) A1.refl ?_
  refine zhp [3] 9 (zml 10 8) [(29,pt b1 2)] ?_
  refine zhk 0 (zml 10 9) rfl (B3t Tryz.underlying147 ty3 rfl rfl) ?_
  have:([4,8,16,32,64,128]:List Int).length=6:=rfl
  refine zhl 4 [bx b3 (A0 ({Act.zero with kind:=39,n:=(d.n % 7)})) 26,bx b2 (A0 Act.zero) 26,bx b1 (M5 d) 41] (zml 10 25) rfl (B6 (v:=.int .u16 d.m) D7t rfl rfl 2 rfl rfl) ?_
  refine zhk 5 (zml 10 57) rfl (V6 (c:=(d.m % 7)) rfl rfl rfl (by decide) (by omega)) ?_
  refine zho 1 [bx b3 (A0 ({Act.zero with kind:=39,n:=(d.n % 7)})) 26,bx b2 (A0 Act.zero) 26,bx b1 (M5 d) 41] (zml 10 59) rfl (B4 (c:=D8) (xs:=([3]:List Int)) F8 rfl rfl rfl (by kernel_rfl)) (fun b15=>(mk [true,true,true] rfl)) (fun b15=>(A1.pick [1,2] rfl)) fun b15=>?_
  have:([3]:List Int).length=1:=rfl
  refine zho 2 [bx b3 (A0 ({Act.zero with kind:=39,n:=(d.n % 7)})) 26,bx b2 (A0 Act.zero) 26,bx b1 (M5 d) 41] (zml 10 63) rfl (C3a (f:=D8) (xs:=([4,8,16,32,64,128]:List Int)) (ys:=([3]:List Int)) B7e (fun _=>rfl) (fun _=>rfl) rfl rfl rfl rfl rfl rfl (by omega) (by omega) (by rfl) (A9 1 rfl) (A9 0 rfl) (by simp) (by first|omega|(simp<;>omega)) (by first|omega|(simp<;>omega))) (fun ⟨r16,hr17⟩=>(mc [[bx b3 (A0 ({Act.zero with kind:=39,n:=(d.n % 7)})) 26],[bx b2 (A0 Act.zero) 26],[bx b1 (M5 d) 41],vo D8 3 r16 (([4,8,16,32,64,128]:List Int)++([3]:List Int))] [true,true,true,false] rfl (by first|rfl|(simp only [List.length_set]<;>rfl)))) (fun ⟨r16,hr17⟩=>(A1.pick [1,2] rfl)) fun ⟨r16,hr17⟩=>?_
  have:=VOk.le hr17
  have:=VOk.cap hr17
  obtain ⟨b18,hb19⟩:=VOk.some hr17 (by omega)
  obtain ⟨q20,k21,j22⟩:=r16
  obtain rfl:q20=some b18:=hb19
  refine zhl 6 [bx b3 (A0 ({Act.zero with kind:=39,n:=(d.n % 7)})) 26,bx b2 (A0 Act.zero) 26,bx b1 (M5 d) 41] (zml 10 127) rfl (C0m F8 rfl rfl rfl ((d.m % 7).toNat) (by omega) (by omega)) ?_
  refine zho 7 [bx b3 (A0 ({Act.zero with kind:=39,n:=(d.n % 7)})) 26,bx b2 (A0 Act.zero) 26,bx b1 (M5 d) 41] (zml 10 255) rfl (Det.tri (G4.det (N5 (u:=iv ((([4,8,16,32,64,128]:List Int)++([3]:List Int)).getD ((d.m % 7).toNat) 0)) (c:=D8) (sz:=1) ty3 (fun _=>rfl) rfl rfl 3 rfl ((d.m % 7).toNat) 0 rfl (gd 0 (by omega)) rfl))) (fun _=>(mc [[bx b3 (A0 ({Act.zero with kind:=39,n:=(d.n % 7)})) 26],[bx b2 (A0 Act.zero) 26],[bx b1 (M5 d) 41],vo D8 3 (⟨some b18,k21,j22⟩:VR) (([4,8,16,32,64,128]:List Int)++([3]:List Int))] [true,true,true,false] rfl (by first|rfl|(simp only [List.length_set]<;>rfl)))) (fun _=>(A1.pick [1,2] rfl)) fun _=>?_
  refine zhp [8] 1 (zml 10 511) [(34,pt b3 2)] ?_
  refine zho 9 [bx b2 (A0 Act.zero) 26,bx b1 (M5 d) 41] (zml 10 1023) rfl (P0 (us:=[iv ((([4,8,16,32,64,128]:List Int)++([3]:List Int)).getD ((d.m % 7).toNat) 0)]) (cs':=A0 ({Act.zero with kind:=39,n:=(d.n % 7),m:=((([4,8,16,32,64,128]:List Int)++([3]:List Int)).getD ((d.m % 7).toNat) 0)})) ty3 rfl rfl rfl 0 rfl rfl rfl rfl rfl rfl) (fun _=>(mc [[bx b3 (A0 ({Act.zero with kind:=39,n:=(d.n % 7),m:=((([4,8,16,32,64,128]:List Int)++([3]:List Int)).getD ((d.m % 7).toNat) 0)})) 26],[bx b2 (A0 Act.zero) 26],[bx b1 (M5 d) 41],vo D8 3 (⟨some b18,k21,j22⟩:VR) (([4,8,16,32,64,128]:List Int)++([3]:List Int))] [false,true,true,false] rfl (by first|rfl|(simp only [List.length_set]<;>rfl)))) (fun _=>(A1.pick [1,2] rfl)) fun _=>?_
  refine B6h (by kernel_rfl) ?_
  refine nx (sr 2 rfl (zrg 2 0 [0,1] [] (bx b3 (A0 ({Act.zero with kind:=39,n:=(d.n % 7),m:=((([4,8,16,32,64,128]:List Int)++([3]:List Int)).getD ((d.m % 7).toNat) 0)})) 26::bx b2 (A0 ({Act.zero with kind:=39,n:=(d.n % 7),m:=((([4,8,16,32,64,128]:List Int)++([3]:List Int)).getD ((d.m % 7).toNat) 0)})) 26::bx b1 (M5 d) 41::(vo D8 3 (⟨some b18,k21,j22⟩:VR) (([4,8,16,32,64,128]:List Int)++([3]:List Int)))++([])) ?_))
  subst hR
  refine ie (A5 ?_)
  exact zer hr hD (M3 rfl (D4 (us:=A0 ({Act.zero with kind:=39,n:=(d.n % 7),m:=((([4,8,16,32,64,128]:List Int)++([3]:List Int)).getD ((d.m % 7).toNat) 0)})) A3a rfl 1 rfl rfl rfl)) () (List.nil_sublist _) fn0
 refine sr 2 rfl (ip' 2 0 [(35,bv (decide ((d.n % 7)=3)))] (ie ?_))
 refine zjd rfl hR ?_ ?_<;>clear hR<;>intro hR h23 h23p
 ·refine A2 6 rfl (zrl 2 4 [3] [(38,.int .u16 d.m)] (ix rfl (V6 (c:=(d.m % 6)) rfl rfl rfl (by decide) (by omega)) (ix rfl (N8 (c:=(d.m % 6)) Tryz.underlying3 (by kernel_rfl) rfl rfl (O8 (by first|(simp [IntKind.min,IntKind.signed,IntKind.bits];omega)|(simp [IntKind.max,IntKind.signed,IntKind.bits];omega)) (by first|(simp [IntKind.min,IntKind.signed,IntKind.bits];omega)|(simp [IntKind.max,IntKind.signed,IntKind.bits];omega)))) (zrg 2 0 [1] [] [bx b4 [iv 4,iv 8,iv 16,iv 32,iv 64,iv 128] 147,bx b3 (A0 ({Act.zero with kind:=39,n:=(d.n % 7),m:=(d.m % 6)})) 26,bx b2 (A0 Act.zero) 26,bx b1 (M5 d) 41] (A3 (nx (sr 2 rfl (zrg 2 0 [1,2] [] [bx b4 [iv 4,iv 8,iv 16,iv 32,iv 64,iv 128] 147,bx b3 (A0 ({Act.zero with kind:=39,n:=(d.n % 7),m:=(d.m % 6)})) 26,bx b2 (A0 ({Act.zero with kind:=39,n:=(d.n % 7),m:=(d.m % 6)})) 26,bx b1 (M5 d) 41] ?_))))))))
  subst hR
  refine ie (A5 ?_)
  exact zer hr hD (M3 rfl (D4 (us:=A0 ({Act.zero with kind:=39,n:=(d.n % 7),m:=(d.m % 6)})) A3a rfl 2 rfl rfl rfl)) () (mk [false,false,false,false] rfl) fn0
 refine B6l (fun (t42:Bool)=>(A1c d t42=R,[(1,pt b1 0),(2,pt b2 0),(3,pt b3 0),(42,bv t42)],[bx b4 [iv 4,iv 8,iv 16,iv 32,iv 64,iv 128] 147,bx b3 (A0 ({Act.zero with kind:=39,n:=(d.n % 7)})) 26,bx b2 (A0 Act.zero) 26,bx b1 (M5 d) 41],[])) ?_ ?_
 ·refine sr 2 rfl (ip' 2 0 [(42,bv (decide ((d.n % 7)=4)))] (ie ?_))
  refine zjd rfl hR ?_ ?_<;>clear hR<;>intro hR h24 h24p
  ·refine A4 ?_
   exact V8 (decide ((d.n % 7)=4)) hR (mk [true,true,true,true] rfl) fn0
  refine sr 2 rfl (ip' 2 0 [(42,bv (decide ((d.n % 7)=5)))] (ie ?_))
  refine zjd rfl hR ?_ ?_<;>clear hR<;>intro hR h25 h25p
  ·refine A4 ?_
   exact V8 (decide ((d.n % 7)=5)) hR (mk [true,true,true,true] rfl) fn0
  refine A2 2 rfl (ip' 2 0 [(42,bv (decide ((d.n % 7)=6)))] (A3 ?_))
  exact V8 (decide ((d.n % 7)=6)) hR (mk [true,true,true,true] rfl) fn0
 intro t42
 rintro hR
 replace hR:=(A1c.eq_1 ..).symm.trans hR
 refine zjb rfl hR ?_ ?_<;>clear hR<;>intro hR h26
 ·refine sr 3 rfl (zrl 2 1 [3] [(47,.int .u16 d.m)] (ix rfl (V6 (c:=(d.m % 4)) rfl rfl rfl (by decide) (by omega)) (ie (B1 (sr 2 rfl (ip' 2 0 [(49,bv (decide ((d.m % 4)=1)))] (ie ?_)))))))
  refine zjd rfl hR ?_ ?_<;>clear hR<;>intro hR h27 h27p
  ·refine A2 7 rfl (zrl 2 5 [3] [(52,.int .u32 d.rgb)] (ix rfl (V6 (c:=(d.rgb % 16777216)) rfl rfl rfl (by decide) (by omega)) (ix rfl (N8 (c:=(d.rgb % 16777216)) Tryz.underlying3 (by kernel_rfl) rfl rfl (O8 (by first|(simp [IntKind.min,IntKind.signed,IntKind.bits];omega)|(simp [IntKind.max,IntKind.signed,IntKind.bits];omega)) (by first|(simp [IntKind.min,IntKind.signed,IntKind.bits];omega)|(simp [IntKind.max,IntKind.signed,IntKind.bits];omega)))) (zrg 3 0 [1] [] [bx b4 [iv 4,iv 8,iv 16,iv 32,iv 64,iv 128] 147,bx b3 (A0 ({Act.zero with kind:=39,n:=(d.n % 7),color:=(⟨2,(d.rgb % 16777216)⟩:Col)})) 26,bx b2 (A0 Act.zero) 26,bx b1 (M5 d) 41] (A3 (nx (sr 2 rfl (zrg 2 0 [1,2] [] [bx b4 [iv 4,iv 8,iv 16,iv 32,iv 64,iv 128] 147,bx b3 (A0 ({Act.zero with kind:=39,n:=(d.n % 7),color:=(⟨2,(d.rgb % 16777216)⟩:Col)})) 26,bx b2 (A0 ({Act.zero with kind:=39,n:=(d.n % 7),color:=(⟨2,(d.rgb % 16777216)⟩:Col)})) 26,bx b1 (M5 d) 41] ?_))))))))
   subst hR
   refine ie (A5 ?_)
   exact zer hr hD (M3 rfl (D4 (us:=A0 ({Act.zero with kind:=39,n:=(d.n % 7),color:=(⟨2,(d.rgb % 16777216)⟩:Col)})) A3a rfl 2 rfl rfl rfl)) () (mk [false,false,false,false] rfl) fn0
  refine sr 2 rfl (ip' 2 0 [(57,bv (decide ((d.m % 4)=2)))] (ie ?_))
  refine zjd rfl hR ?_ ?_<;>clear hR<;>intro hR h28 h28p
  ·refine A2 7 rfl (zrl 2 5 [3] [(60,.int .u32 d.rgb)] (ix rfl (V6 (c:=(d.rgb % 256)) rfl rfl rfl (by decide) (by omega)) (ix rfl (N8 (c:=(d.rgb % 256)) Tryz.underlying3 (by kernel_rfl) rfl rfl (O8 (by first|(simp [IntKind.min,IntKind.signed,IntKind.bits];omega)|(simp [IntKind.max,IntKind.signed,IntKind.bits];omega)) (by first|(simp [IntKind.min,IntKind.signed,IntKind.bits];omega)|(simp [IntKind.max,IntKind.signed,IntKind.bits];omega)))) (zrg 3 0 [1] [] [bx b4 [iv 4,iv 8,iv 16,iv 32,iv 64,iv 128] 147,bx b3 (A0 ({Act.zero with kind:=39,n:=(d.n % 7),color:=(⟨1,(d.rgb % 256)⟩:Col)})) 26,bx b2 (A0 Act.zero) 26,bx b1 (M5 d) 41] (A3 (nx (sr 2 rfl (zrg 2 0 [1,2] [] [bx b4 [iv 4,iv 8,iv 16,iv 32,iv 64,iv 128] 147,bx b3 (A0 ({Act.zero with kind:=39,n:=(d.n % 7),color:=(⟨1,(d.rgb % 256)⟩:Col)})) 26,bx b2 (A0 ({Act.zero with kind:=39,n:=(d.n % 7),color:=(⟨1,(d.rgb % 256)⟩:Col)})) 26,bx b1 (M5 d) 41] ?_))))))))
   subst hR
   refine ie (A5 ?_)
   exact zer hr hD (M3 rfl (D4 (us:=A0 ({Act.zero with kind:=39,n:=(d.n % 7),color:=(⟨1,(d.rgb % 256)⟩:Col)})) A3a rfl 2 rfl rfl rfl)) () (mk [false,false,false,false] rfl) fn0
  refine sr 2 rfl (ip' 2 0 [(65,bv (decide ((d.m % 4)=3)))] (ie ?_))
  refine zjd rfl hR ?_ ?_<;>clear hR<;>intro hR h29 h29p
  ·refine A2 7 rfl (zrl 2 5 [3] [(68,.int .u32 d.rgb)] (ix rfl (V6 (c:=(d.rgb % 18)) rfl rfl rfl (by decide) (by omega)) (ix rfl (N8 (c:=(d.rgb % 18)) Tryz.underlying3 (by kernel_rfl) rfl rfl (O8 (by first|(simp [IntKind.min,IntKind.signed,IntKind.bits];omega)|(simp [IntKind.max,IntKind.signed,IntKind.bits];omega)) (by first|(simp [IntKind.min,IntKind.signed,IntKind.bits];omega)|(simp [IntKind.max,IntKind.signed,IntKind.bits];omega)))) (zrg 3 0 [1] [] [bx b4 [iv 4,iv 8,iv 16,iv 32,iv 64,iv 128] 147,bx b3 (A0 ({Act.zero with kind:=39,n:=(d.n % 7),color:=(⟨1,(d.rgb % 18)⟩:Col)})) 26,bx b2 (A0 Act.zero) 26,bx b1 (M5 d) 41] (A3 (nx (sr 2 rfl (zrg 2 0 [1,2] [] [bx b4 [iv 4,iv 8,iv 16,iv 32,iv 64,iv 128] 147,bx b3 (A0 ({Act.zero with kind:=39,n:=(d.n % 7),color:=(⟨1,(d.rgb % 18)⟩:Col)})) 26,bx b2 (A0 ({Act.zero with kind:=39,n:=(d.n % 7),color:=(⟨1,(d.rgb % 18)⟩:Col)})) 26,bx b1 (M5 d) 41] ?_))))))))
   subst hR
   refine ie (A5 ?_)
   exact zer hr hD (M3 rfl (D4 (us:=A0 ({Act.zero with kind:=39,n:=(d.n % 7),color:=(⟨1,(d.rgb % 18)⟩:Col)})) A3a rfl 2 rfl rfl rfl)) () (mk [false,false,false,false] rfl) fn0
  refine A4 (nx (sr 2 rfl (zrg 2 0 [1,2] [] [bx b4 [iv 4,iv 8,iv 16,iv 32,iv 64,iv 128] 147,bx b3 (A0 ({Act.zero with kind:=39,n:=(d.n % 7)})) 26,bx b2 (A0 ({Act.zero with kind:=39,n:=(d.n % 7)})) 26,bx b1 (M5 d) 41] ?_)))
  subst hR
  refine ie (A5 ?_)
  exact zer hr hD (M3 rfl (D4 (us:=A0 ({Act.zero with kind:=39,n:=(d.n % 7)})) A3a rfl 2 rfl rfl rfl)) () (mk [false,false,false,false] rfl) fn0
 refine A4 (nx (sr 2 rfl (zrg 2 0 [1,2] [] [bx b4 [iv 4,iv 8,iv 16,iv 32,iv 64,iv 128] 147,bx b3 (A0 ({Act.zero with kind:=39,n:=(d.n % 7)})) 26,bx b2 (A0 ({Act.zero with kind:=39,n:=(d.n % 7)})) 26,bx b1 (M5 d) 41] ?_)))
 subst hR
 refine ie (A5 ?_)
 exact zer hr hD (M3 rfl (D4 (us:=A0 ({Act.zero with kind:=39,n:=(d.n % 7)})) A3a rfl 2 rfl rfl rfl)) () (mk [false,false,false,false] rfl) fn0
def M9 (d:Drf) (i:Nat) (k:Nat) (ag_ref10_Draft_Action_l11:Nat→Act):Nat→Nat→Act
 | 0,_=>Act.zero
 | fu5+1,by_=>(bif (decide ((by_:Int)<5)) then (bif (C9 ({Act.zero with kind:=(IntKind.i64.wrap ((1:Int)+(d.kind % 46))),n:=(IntKind.i64.wrap ((Int.tmod d.n (([65536,10000,7,4,2]:List Int).getD i 0))+(by_:Int))),m:=(Int.tmod d.m (([65536,10000,7,4,2]:List Int).getD k 0))})) then {Act.zero with kind:=(IntKind.i64.wrap ((1:Int)+(d.kind % 46))),n:=(IntKind.i64.wrap ((Int.tmod d.n (([65536,10000,7,4,2]:List Int).getD i 0))+(by_:Int))),m:=(Int.tmod d.m (([65536,10000,7,4,2]:List Int).getD k 0))} else (bif (C9 ({Act.zero with kind:=(IntKind.i64.wrap ((1:Int)+(d.kind % 46))),n:=(IntKind.i64.wrap ((Int.tmod d.n (([65536,10000,7,4,2]:List Int).getD i 0))+(by_:Int))),m:=(IntKind.i64.wrap ((Int.tmod d.m (([65536,10000,7,4,2]:List Int).getD k 0))+(1:Int)))})) then {Act.zero with kind:=(IntKind.i64.wrap ((1:Int)+(d.kind % 46))),n:=(IntKind.i64.wrap ((Int.tmod d.n (([65536,10000,7,4,2]:List Int).getD i 0))+(by_:Int))),m:=(IntKind.i64.wrap ((Int.tmod d.m (([65536,10000,7,4,2]:List Int).getD k 0))+(1:Int)))} else (bif (C9 ({Act.zero with kind:=(IntKind.i64.wrap ((1:Int)+(d.kind % 46))),n:=(IntKind.i64.wrap ((Int.tmod d.n (([65536,10000,7,4,2]:List Int).getD i 0))+(by_:Int))),m:=0})) then {Act.zero with kind:=(IntKind.i64.wrap ((1:Int)+(d.kind % 46))),n:=(IntKind.i64.wrap ((Int.tmod d.n (([65536,10000,7,4,2]:List Int).getD i 0))+(by_:Int))),m:=0} else M9 d i k ag_ref10_Draft_Action_l11 fu5 (by_+1)))) else ag_ref10_Draft_Action_l11 (k+1))
def K8 (d:Drf) (i:Nat) (ag_ref10_Draft_Action_l8:Nat→Act):Nat→Nat→Act
 | 0,_=>Act.zero
 | fu3+1,k=>(bif (decide ((k:Int)<5)) then M9 d i k (K8 d i ag_ref10_Draft_Action_l8 fu3) ((5 - 0)+1) 0 else ag_ref10_Draft_Action_l8 (i+1))
def K1 (d:Drf):Nat→Nat→Act
 | 0,_=>Act.zero
 | fu1+1,i=>(bif (decide ((i:Int)<5)) then K8 d i (K1 d fu1) ((5 - 0)+1) 0 else {Act.zero with kind:=2})
def J3 (d:Drf):Act :=
 (bif ((decide ((IntKind.i64.wrap ((1:Int)+(d.kind % 46)))=44))||(decide ((IntKind.i64.wrap ((1:Int)+(d.kind % 46)))=46))) then (bif (!(C9 ({Act.zero with kind:=(IntKind.i64.wrap ((1:Int)+(d.kind % 46))),text:=(d.text.take ((if (300:Int)<(d.text.length:Int) then (300:Int) else (d.text.length:Int)).toNat))}))) then {Act.zero with kind:=(IntKind.i64.wrap ((1:Int)+(d.kind % 46))),text:=([116]:List UInt8)} else {Act.zero with kind:=(IntKind.i64.wrap ((1:Int)+(d.kind % 46))),text:=(d.text.take ((if (300:Int)<(d.text.length:Int) then (300:Int) else (d.text.length:Int)).toNat))}) else (bif (decide ((IntKind.i64.wrap ((1:Int)+(d.kind % 46)))=45)) then {Act.zero with kind:=(IntKind.i64.wrap ((1:Int)+(d.kind % 46))),n:=(d.n % 256),color:=(⟨2,(d.rgb % 16777216)⟩:Col)} else (bif (decide ((IntKind.i64.wrap ((1:Int)+(d.kind % 46)))=39)) then (A4o d) else K1 d ((5 - 0)+1) 0)))
theorem C2s (d:Drf):(A4o d).text=[]:=by
 unfold A4o A1c
 simp only [Bool.cond_eq_ite]
 repeat' split
 all_goals rfl
theorem A3q (d:Drf) (i k:Nat) (ag:Nat→Act) (hag:∀ x,(ag x).text=[]):∀ (fu b:Nat),(M9 d i k ag fu b).text=[]
 | 0,_=>rfl
 | fu+1,b=>by
  have ih:=A3q d i k ag hag fu (b+1)
  rw [M9]
  simp only [Bool.cond_eq_ite]
  repeat' split
  all_goals first|rfl|exact ih|exact hag _
theorem A3p (d:Drf) (i:Nat) (ag:Nat→Act) (hag:∀ x,(ag x).text=[]):∀ (fu k:Nat),(K8 d i ag fu k).text=[]
 | 0,_=>rfl
 | fu+1,k=>by
  rw [K8]
  simp only [Bool.cond_eq_ite]
  split
  ·exact A3q d i k _ (fun x=>A3p d i ag hag fu x) _ _
  ·exact hag _
theorem A4e (d:Drf):∀ (fu i:Nat),(K1 d fu i).text=[]
 | 0,_=>rfl
 | fu+1,i=>by
  rw [K1]
  simp only [Bool.cond_eq_ite]
  split
  ·exact A3p d i _ (fun x=>A4e d fu x) _ _
  ·rfl
theorem A5v (d:Drf):(J3 d).text.length≤300:=by
 have h8:=A4e d ((5 - 0)+1) 0
 have hp:=C2s d
 unfold J3
 simp only [Bool.cond_eq_ite]
 repeat' split
 all_goals first|(rw [h8];exact Nat.zero_le _)|(rw [hp];exact Nat.zero_le _)|exact Nat.zero_le _|(show ([116]:List UInt8).length≤300;decide)|(show (List.take _ _).length≤300;rw [List.length_take];split<;>omega)|(show (List.take _ _).length≤300;rw [List.length_take];omega)
theorem B5m (d:Drf) (hd:B3h d) (R:Act) (hR:J3 d=R):I5 Tryz.prog 19 [ag (M5 d)] [] (ag (A0 R)):=by
 refine zco Tryz.func19 [(0,ag (M5 d))] fun X hX hr hD=>?_
 replace hR:=(J3.eq_1 ..).symm.trans hR
 have hdi:=hd;unfold B3h at hdi
 refine sr 2 rfl (C5o 2 0 [] (fun b1 b2=>[(1,pt b1 0),(2,pt b2 0)]) (fun b1 b2=>[bx b2 (A0 Act.zero) 26,bx b1 (M5 d) 41]) (fun b1 b2=>(ie (sr 8 rfl (zrl 2 6 [1] [(10,.int .u16 d.kind)] (ix rfl (V6 (c:=(d.kind % 46)) rfl rfl rfl (by decide) (by omega)) (ix rfl (N8 (c:=(d.kind % 46)) Tryz.underlying3 (by kernel_rfl) rfl rfl (O8 (by first|(simp [IntKind.min,IntKind.signed,IntKind.bits];omega)|(simp [IntKind.max,IntKind.signed,IntKind.bits];omega)) (by first|(simp [IntKind.min,IntKind.signed,IntKind.bits];omega)|(simp [IntKind.max,IntKind.signed,IntKind.bits];omega)))) (ix rfl (G4.pure rfl) ?_))))))))
 refine O5 3 0 [0] (fun b3=>[(3,pt b3 0)]) (fun b3=>[bx b3 (A0 ({Act.zero with kind:=(IntKind.i64.wrap ((1:Int)+(d.kind % 46)))})) 26,bx b2 (A0 Act.zero) 26,bx b1 (M5 d) 41]) (fun b3=>?_)
 refine ie (A7 (sr 8 rfl (zrl 4 4 [0] [(18,bv (decide ((IntKind.i64.wrap ((1:Int)+(d.kind % 46)))=44)))] ?_)))
 refine zir 4 0 18 22 (decide ((IntKind.i64.wrap ((1:Int)+(d.kind % 46)))=46)) (fun g4 g4p=>?_) ?_
 ·refine zrl 4 0 [0] [(22,bv (decide ((IntKind.i64.wrap ((1:Int)+(d.kind % 46)))=46)))] ?_
  exact A3 (K5 2 18 22 g4 fn0 (mk [true,true,true] rfl) rfl rfl rfl rfl rfl)
 refine ie ?_
 refine zjo rfl hR ?_ ?_<;>clear hR<;>intro hR h5 h5p
 ·refine sr 9 rfl (zrl 6 3 [2,2] [(24,sv d.text),(28,iv (if (300:Int)<(d.text.length:Int) then (300:Int) else (d.text.length:Int)))] ?_)
  have:=C8p (d.text.length:Int) (300:Int)
  refine ix rfl (A5y (T:=9) Tryz.underlying9 rfl rfl rfl ((if (300:Int)<(d.text.length:Int) then (300:Int) else (d.text.length:Int)).toNat) (by omega) (by omega)) (zrg 2 0 [0] [] [bx b3 (A0 ({Act.zero with kind:=(IntKind.i64.wrap ((1:Int)+(d.kind % 46))),text:=(d.text.take ((if (300:Int)<(d.text.length:Int) then (300:Int) else (d.text.length:Int)).toNat))})) 26,bx b2 (A0 Act.zero) 26,bx b1 (M5 d) 41] (ie (A7 (sr 3 rfl (zrl 1 2 [0] [(31,ag (A0 ({Act.zero with kind:=(IntKind.i64.wrap ((1:Int)+(d.kind % 46))),text:=(d.text.take ((if (300:Int)<(d.text.length:Int) then (300:Int) else (d.text.length:Int)).toNat))})))] (zca (A5b ({Act.zero with kind:=(IntKind.i64.wrap ((1:Int)+(d.kind % 46))),text:=(d.text.take ((if (300:Int)<(d.text.length:Int) then (300:Int) else (d.text.length:Int)).toNat))}) _ rfl) fn0 (ip' 1 0 [(33,bv (!(C9 ({Act.zero with kind:=(IntKind.i64.wrap ((1:Int)+(d.kind % 46))),text:=(d.text.take ((if (300:Int)<(d.text.length:Int) then (300:Int) else (d.text.length:Int)).toNat))}))))] (ie ?_))))))))
  refine zjb rfl hR ?_ ?_<;>clear hR<;>intro hR h6
  ·refine A2 2 rfl (zrg 2 0 [0] [] [bx b3 (A0 ({Act.zero with kind:=(IntKind.i64.wrap ((1:Int)+(d.kind % 46))),text:=([116]:List UInt8)})) 26,bx b2 (A0 Act.zero) 26,bx b1 (M5 d) 41] (A3 (nx (sr 2 rfl (zrg 2 0 [0,1] [] [bx b3 (A0 ({Act.zero with kind:=(IntKind.i64.wrap ((1:Int)+(d.kind % 46))),text:=([116]:List UInt8)})) 26,bx b2 (A0 ({Act.zero with kind:=(IntKind.i64.wrap ((1:Int)+(d.kind % 46))),text:=([116]:List UInt8)})) 26,bx b1 (M5 d) 41] ?_)))))
   subst hR
   refine ie (A5 ?_)
   exact zer hr hD (M3 rfl (D4 (us:=A0 ({Act.zero with kind:=(IntKind.i64.wrap ((1:Int)+(d.kind % 46))),text:=([116]:List UInt8)})) A3a rfl 1 rfl rfl rfl)) () (mk [false,false,false] rfl) fn0
  refine A4 (nx (sr 2 rfl (zrg 2 0 [0,1] [] [bx b3 (A0 ({Act.zero with kind:=(IntKind.i64.wrap ((1:Int)+(d.kind % 46))),text:=(d.text.take ((if (300:Int)<(d.text.length:Int) then (300:Int) else (d.text.length:Int)).toNat))})) 26,bx b2 (A0 ({Act.zero with kind:=(IntKind.i64.wrap ((1:Int)+(d.kind % 46))),text:=(d.text.take ((if (300:Int)<(d.text.length:Int) then (300:Int) else (d.text.length:Int)).toNat))})) 26,bx b1 (M5 d) 41] ?_)))
  subst hR
  refine ie (A5 ?_)
  exact zer hr hD (M3 rfl (D4 (us:=A0 ({Act.zero with kind:=(IntKind.i64.wrap ((1:Int)+(d.kind % 46))),text:=(d.text.take ((if (300:Int)<(d.text.length:Int) then (300:Int) else (d.text.length:Int)).toNat))})) A3a rfl 1 rfl rfl rfl)) () (mk [false,false,false] rfl) fn0
 refine A4 (nx (A7 (sr 3 rfl (zrl 3 0 [0] [(38,bv (decide ((IntKind.i64.wrap ((1:Int)+(d.kind % 46)))=45)))] (ie ?_)))))
 refine zjd rfl hR ?_ ?_<;>clear hR<;>intro hR h7 h7p
 ·refine sh 13 [(10,[bx b3 (A0 ({Act.zero with kind:=(IntKind.i64.wrap ((1:Int)+(d.kind % 46)))})) 26]),(13,[bx b2 (A0 Act.zero) 26]),(13,[bx b1 (M5 d) 41])] [] [bx b3 (A0 ({Act.zero with kind:=(IntKind.i64.wrap ((1:Int)+(d.kind % 46)))})) 26,bx b2 (A0 Act.zero) 26,bx b1 (M5 d) 41] (zml 13 0) (by kernel_rfl) rfl (by kernel_rfl) (by kernel_rfl) (by kernel_rfl) (mk [true,true,true] rfl) A1.refl ?_
  refine zhp [0,4] 11 (zml 13 17) [(39,pt b1 1),(43,pt b1 3)] ?_
  refine zhl 1 [bx b3 (A0 ({Act.zero with kind:=(IntKind.i64.wrap ((1:Int)+(d.kind % 46)))})) 26,bx b2 (A0 Act.zero) 26,bx b1 (M5 d) 41] (zml 13 19) rfl (B6 (v:=.int .u16 d.n) D7t rfl rfl 2 rfl rfl) ?_
  refine zhk 2 (zml 13 23) rfl (V6 (c:=(d.n % 256)) rfl rfl rfl (by decide) (by omega)) (zhk 3 (zml 13 31) rfl (N8 (c:=(d.n % 256)) Tryz.underlying3 (by kernel_rfl) rfl rfl (O8 (by first|(simp [IntKind.min,IntKind.signed,IntKind.bits];omega)|(simp [IntKind.max,IntKind.signed,IntKind.bits];omega)) (by first|(simp [IntKind.min,IntKind.signed,IntKind.bits];omega)|(simp [IntKind.max,IntKind.signed,IntKind.bits];omega)))) ?_)
  refine zhp [9] 7 (zml 13 543) [(48,pt b3 1)] ?_
  refine zhl 5 [bx b2 (A0 Act.zero) 26,bx b1 (M5 d) 41] (zml 13 575) rfl (B6 (v:=.int .u32 d.rgb) E7c rfl rfl 1 rfl rfl) ?_
  refine zhk 6 (zml 13 639) rfl (V6 (c:=(d.rgb % 16777216)) rfl rfl rfl (by decide) (by omega)) (zhk 7 (zml 13 767) rfl (N8 (c:=(d.rgb % 16777216)) Tryz.underlying3 (by kernel_rfl) rfl rfl (O8 (by first|(simp [IntKind.min,IntKind.signed,IntKind.bits];omega)|(simp [IntKind.max,IntKind.signed,IntKind.bits];omega)) (by first|(simp [IntKind.min,IntKind.signed,IntKind.bits];omega)|(simp [IntKind.max,IntKind.signed,IntKind.bits];omega)))) (zhk 8 (zml 13 1023) rfl (C6h (cs:=M1 (⟨2,(d.rgb % 16777216)⟩:Col)) rfl rfl (by kernel_rfl)) ?_))
  refine zho 10 [bx b2 (A0 Act.zero) 26,bx b1 (M5 d) 41] (zml 13 2047) rfl (P0 (us:=[iv (d.n % 256)]) (cs':=A0 ({Act.zero with kind:=(IntKind.i64.wrap ((1:Int)+(d.kind % 46))),n:=(d.n % 256)})) ty3 rfl rfl rfl 0 rfl rfl rfl rfl rfl rfl) (fun _=>(mk [false,true,true] rfl)) (fun _=>fn0) fun _=>?_
  refine zhp [11] 1 (zml 13 4095) [(49,pt b3 3)] ?_
  refine zho 12 [bx b2 (A0 Act.zero) 26,bx b1 (M5 d) 41] (zml 13 8191) rfl (P0 (us:=M1 (⟨2,(d.rgb % 16777216)⟩:Col)) (cs':=A0 ({Act.zero with kind:=(IntKind.i64.wrap ((1:Int)+(d.kind % 46))),n:=(d.n % 256),color:=(⟨2,(d.rgb % 16777216)⟩:Col)})) B6q rfl rfl rfl 0 rfl rfl rfl rfl rfl rfl) (fun _=>(mk [false,true,true] rfl)) (fun _=>fn0) fun _=>?_
  refine A8b (by kernel_rfl) ?_
  refine sr 2 rfl (zrg 2 0 [0,1] [] [bx b3 (A0 ({Act.zero with kind:=(IntKind.i64.wrap ((1:Int)+(d.kind % 46))),n:=(d.n % 256),color:=(⟨2,(d.rgb % 16777216)⟩:Col)})) 26,bx b2 (A0 ({Act.zero with kind:=(IntKind.i64.wrap ((1:Int)+(d.kind % 46))),n:=(d.n % 256),color:=(⟨2,(d.rgb % 16777216)⟩:Col)})) 26,bx b1 (M5 d) 41] ?_)
  subst hR
  refine ie (A5 ?_)
  exact zer hr hD (M3 rfl (D4 (us:=A0 ({Act.zero with kind:=(IntKind.i64.wrap ((1:Int)+(d.kind % 46))),n:=(d.n % 256),color:=(⟨2,(d.rgb % 16777216)⟩:Col)})) A3a rfl 1 rfl rfl rfl)) () (mk [false,false,false] rfl) fn0
 refine A4 (nx (A7 (sr 3 rfl (zrl 3 0 [0] [(53,bv (decide ((IntKind.i64.wrap ((1:Int)+(d.kind % 46)))=39)))] (ie ?_)))))
 refine zjd rfl hR ?_ ?_<;>clear hR<;>intro hR h8 h8p
 ·refine sr 3 rfl (zrl 1 2 [2] [(54,ag (M5 d))] (zca (D1s d (by first|assumption|(exact hdl _ (List.getElem_mem (by omega)))|(rw [gdE (by omega)];exact hdl _ (List.getElem_mem (by omega)))) _ rfl) fn0 (zrg 1 0 [1] [] [bx b3 (A0 ({Act.zero with kind:=(IntKind.i64.wrap ((1:Int)+(d.kind % 46)))})) 26,bx b2 (A0 (A4o d)) 26,bx b1 (M5 d) 41] ?_)))
  subst hR
  refine ie (A5 ?_)
  exact zer hr hD (M3 rfl (D4 (us:=A0 (A4o d)) A3a rfl 1 rfl rfl rfl)) () (mk [false,false,false] rfl) fn0
 refine A4 (nx (sr 3 rfl (O5 3 0 [0] (fun b9=>[(4,pt b9 0)]) (fun b9=>[bx b9 [iv 65536,iv 10000,iv 7,iv 4,iv 2] 85,bx b3 (A0 ({Act.zero with kind:=(IntKind.i64.wrap ((1:Int)+(d.kind % 46)))})) 26,bx b2 (A0 Act.zero) 26,bx b1 (M5 d) 41]) (fun b9=>(ie (A7 (sr 1 rfl (ip' 1 0 [(5,iv 0)] (ie (B1 (C5n (fun (fu:Nat) (i:Nat)=>((5 - i)<fu∧K1 d fu i=R,[(1,pt b1 0),(2,pt b2 0),(3,pt b3 0),(4,pt b9 0),(5,iv (i:Int))],[bx b9 [iv 65536,iv 10000,iv 7,iv 4,iv 2] 85,bx b3 (A0 ({Act.zero with kind:=(IntKind.i64.wrap ((1:Int)+(d.kind % 46)))})) 26,bx b2 (A0 Act.zero) 26,bx b1 (M5 d) 41],[],fu)) ((5 - 0)+1) 0 ⟨(Nat.lt_succ_self _),hR⟩ (mk [true,true,true,true] rfl) fn0 ?_)))))))))))
 rintro fu i ⟨hm10,hR⟩
 obtain ⟨fu1,rfl⟩:∃ m,fu=m+1:=⟨fu - 1,by omega⟩
 replace hR:=(K1.eq_2 ..).symm.trans hR
 refine A7 (sr 2 rfl (ip' 2 0 [(58,bv (decide ((i:Int)<5)))] ?_))
 refine ie ?_
 refine zjd rfl hR ?_ ?_<;>clear hR<;>intro hR h11 h11p
 ·refine A4 (nx (A7 (B1 (sr 1 rfl (ip' 1 0 [(6,iv 0)] (ie (B1 (C5n (fun (fu2:Nat) (k:Nat)=>((5 - k)<fu2∧K8 d i (K1 d fu1) fu2 k=R,[(1,pt b1 0),(2,pt b2 0),(3,pt b3 0),(4,pt b9 0),(5,iv (i:Int)),(6,iv (k:Int))],[bx b9 [iv 65536,iv 10000,iv 7,iv 4,iv 2] 85,bx b3 (A0 ({Act.zero with kind:=(IntKind.i64.wrap ((1:Int)+(d.kind % 46)))})) 26,bx b2 (A0 Act.zero) 26,bx b1 (M5 d) 41],[],fu2)) ((5 - 0)+1) 0 ⟨(Nat.lt_succ_self _),hR⟩ (mk [true,true,true,true] rfl) fn0 ?_))))))))
  rintro fu2 k ⟨hm12,hR⟩
  obtain ⟨fu3,rfl⟩:∃ m,fu2=m+1:=⟨fu2 - 1,by omega⟩
  replace hR:=(K8.eq_2 ..).symm.trans hR
  refine A7 (sr 2 rfl (ip' 2 0 [(62,bv (decide ((k:Int)<5)))] ?_))
  refine ie ?_
  refine zjd rfl hR ?_ ?_<;>clear hR<;>intro hR h13 h13p
  ·refine A4 (nx (A7 (B1 (sr 1 rfl (ip' 1 0 [(7,iv 0)] (ie (B1 (C5n (fun (fu4:Nat) (by_:Nat)=>((5 - by_)<fu4∧M9 d i k (K8 d i (K1 d fu1) fu3) fu4 by_=R,[(1,pt b1 0),(2,pt b2 0),(3,pt b3 0),(4,pt b9 0),(5,iv (i:Int)),(6,iv (k:Int)),(7,iv (by_:Int))],[bx b9 [iv 65536,iv 10000,iv 7,iv 4,iv 2] 85,bx b3 (A0 ({Act.zero with kind:=(IntKind.i64.wrap ((1:Int)+(d.kind % 46)))})) 26,bx b2 (A0 Act.zero) 26,bx b1 (M5 d) 41],[],fu4)) ((5 - 0)+1) 0 ⟨(Nat.lt_succ_self _),hR⟩ (mk [true,true,true,true] rfl) fn0 ?_))))))))
   rintro fu4 by_ ⟨hm14,hR⟩
   obtain ⟨fu5,rfl⟩:∃ m,fu4=m+1:=⟨fu4 - 1,by omega⟩
   replace hR:=(M9.eq_2 ..).symm.trans hR
   refine A7 (sr 2 rfl (ip' 2 0 [(66,bv (decide ((by_:Int)<5)))] ?_))
   refine ie ?_
   refine zjd rfl hR ?_ ?_<;>clear hR<;>intro hR h15 h15p
   ·refine A4 (nx (A7 (B1 (sr 3 rfl (O5 3 0 [1,0] (fun b16=>[(8,pt b16 0)]) (fun b16=>[bx b16 (A0 ({Act.zero with kind:=(IntKind.i64.wrap ((1:Int)+(d.kind % 46)))})) 26,bx b9 [iv 65536,iv 10000,iv 7,iv 4,iv 2] 85,bx b3 (A0 ({Act.zero with kind:=(IntKind.i64.wrap ((1:Int)+(d.kind % 46)))})) 26,bx b2 (A0 Act.zero) 26,bx b1 (M5 d) 41]) (fun b16=>(ie (sh 20 [(17,[bx b16 (A0 ({Act.zero with kind:=(IntKind.i64.wrap ((1:Int)+(d.kind % 46)))})) 26]),(20,[bx b9 [iv 65536,iv 10000,iv 7,iv 4,iv 2] 85]),(20,[bx b3 (A0 ({Act.zero with kind:=(IntKind.i64.wrap ((1:Int)+(d.kind % 46)))})) 26]),(20,[bx b2 (A0 Act.zero) 26]),(20,[bx b1 (M5 d) 41])] [] [bx b16 (A0 ({Act.zero with kind:=(IntKind.i64.wrap ((1:Int)+(d.kind % 46)))})) 26,bx b9 [iv 65536,iv 10000,iv 7,iv 4,iv 2] 85,bx b3 (A0 ({Act.zero with kind:=(IntKind.i64.wrap ((1:Int)+(d.kind % 46)))})) 26,bx b2 (A0 Act.zero) 26,bx b1 (M5 d) 41] (zml 20 0) (by kernel_rfl) rfl (by kernel_rfl) (by kernel_rfl) (by kernel_rfl) (mk [true,true,true,true,true] rfl) A1.refl ?_))))))))
    refine zhp [0,3,7,9,12] 15 (zml 20 4745) [(70,pt b1 1),(73,iv (i:Int)),(77,iv (by_:Int)),(79,pt b1 2),(82,iv (k:Int))] ?_
    refine zhl 1 [bx b16 (A0 ({Act.zero with kind:=(IntKind.i64.wrap ((1:Int)+(d.kind % 46)))})) 26,bx b9 [iv 65536,iv 10000,iv 7,iv 4,iv 2] 85,bx b3 (A0 ({Act.zero with kind:=(IntKind.i64.wrap ((1:Int)+(d.kind % 46)))})) 26,bx b2 (A0 Act.zero) 26,bx b1 (M5 d) 41] (zml 20 4747) rfl (B6 (v:=.int .u16 d.n) D7t rfl rfl 4 rfl rfl) ?_
    refine zhk 2 (zml 20 4751) rfl (N8 (c:=d.n) Tryz.underlying3 (by kernel_rfl) rfl rfl (O8 (by first|(simp [IntKind.min,IntKind.signed,IntKind.bits];omega)|(simp [IntKind.max,IntKind.signed,IntKind.bits];omega)) (by first|(simp [IntKind.min,IntKind.signed,IntKind.bits];omega)|(simp [IntKind.max,IntKind.signed,IntKind.bits];omega)))) (zhl 4 [bx b16 (A0 ({Act.zero with kind:=(IntKind.i64.wrap ((1:Int)+(d.kind % 46)))})) 26,bx b9 [iv 65536,iv 10000,iv 7,iv 4,iv 2] 85,bx b3 (A0 ({Act.zero with kind:=(IntKind.i64.wrap ((1:Int)+(d.kind % 46)))})) 26,bx b2 (A0 Act.zero) 26,bx b1 (M5 d) 41] (zml 20 4767) rfl (U9 Tryz.underlying85 ty3 rfl rfl rfl i rfl (by omega)) ?_)
    refine zhl 5 [bx b16 (A0 ({Act.zero with kind:=(IntKind.i64.wrap ((1:Int)+(d.kind % 46)))})) 26,bx b9 [iv 65536,iv 10000,iv 7,iv 4,iv 2] 85,bx b3 (A0 ({Act.zero with kind:=(IntKind.i64.wrap ((1:Int)+(d.kind % 46)))})) 26,bx b2 (A0 Act.zero) 26,bx b1 (M5 d) 41] (zml 20 4799) rfl (N5 (u:=iv (([65536,10000,7,4,2]:List Int).getD i 0)) (c:=D8) (xs:=([65536,10000,7,4,2]:List Int)) (j:=[]) (sz:=1) ty3 (fun _=>rfl) rfl rfl 1 rfl i 0 rfl (gd 0 (by simp only [List.length_cons,List.length_nil];omega)) rfl) ?_
    refine zhk 6 (zml 20 4863) rfl (A7n rfl rfl rfl (by first|omega|exact C2a (by decide) (by first|omega|(simp<;>omega))|omega) rfl) (zhk 8 (zml 20 5119) rfl (G4.pure rfl) ?_)
    refine zhp [16] 8 (zml 20 70655) [(86,pt b16 1)] ?_
    refine zhl 10 [bx b9 [iv 65536,iv 10000,iv 7,iv 4,iv 2] 85,bx b3 (A0 ({Act.zero with kind:=(IntKind.i64.wrap ((1:Int)+(d.kind % 46)))})) 26,bx b2 (A0 Act.zero) 26,bx b1 (M5 d) 41] (zml 20 71679) rfl (B6 (v:=.int .u16 d.m) D7t rfl rfl 3 rfl rfl) ?_
    refine zhk 11 (zml 20 73727) rfl (N8 (c:=d.m) Tryz.underlying3 (by kernel_rfl) rfl rfl (O8 (by first|(simp [IntKind.min,IntKind.signed,IntKind.bits];omega)|(simp [IntKind.max,IntKind.signed,IntKind.bits];omega)) (by first|(simp [IntKind.min,IntKind.signed,IntKind.bits];omega)|(simp [IntKind.max,IntKind.signed,IntKind.bits];omega)))) (zhl 13 [bx b9 [iv 65536,iv 10000,iv 7,iv 4,iv 2] 85,bx b3 (A0 ({Act.zero with kind:=(IntKind.i64.wrap ((1:Int)+(d.kind % 46)))})) 26,bx b2 (A0 Act.zero) 26,bx b1 (M5 d) 41] (zml 20 81919) rfl (U9 Tryz.underlying85 ty3 rfl rfl rfl k rfl (by omega)) ?_)
    refine zhl 14 [bx b9 [iv 65536,iv 10000,iv 7,iv 4,iv 2] 85,bx b3 (A0 ({Act.zero with kind:=(IntKind.i64.wrap ((1:Int)+(d.kind % 46)))})) 26,bx b2 (A0 Act.zero) 26,bx b1 (M5 d) 41] (zml 20 98303) rfl (N5 (u:=iv (([65536,10000,7,4,2]:List Int).getD k 0)) (c:=D8) (xs:=([65536,10000,7,4,2]:List Int)) (j:=[]) (sz:=1) ty3 (fun _=>rfl) rfl rfl 0 rfl k 0 rfl (gd 0 (by simp only [List.length_cons,List.length_nil];omega)) rfl) ?_
    refine zhk 15 (zml 20 131071) rfl (A7n rfl rfl rfl (by first|omega|exact C2a (by decide) (by first|omega|(simp<;>omega))|omega) rfl) ?_
    refine zho 17 [bx b9 [iv 65536,iv 10000,iv 7,iv 4,iv 2] 85,bx b3 (A0 ({Act.zero with kind:=(IntKind.i64.wrap ((1:Int)+(d.kind % 46)))})) 26,bx b2 (A0 Act.zero) 26,bx b1 (M5 d) 41] (zml 20 262143) rfl (P0 (us:=[iv (IntKind.i64.wrap ((Int.tmod d.n (([65536,10000,7,4,2]:List Int).getD i 0))+(by_:Int)))]) (cs':=A0 ({Act.zero with kind:=(IntKind.i64.wrap ((1:Int)+(d.kind % 46))),n:=(IntKind.i64.wrap ((Int.tmod d.n (([65536,10000,7,4,2]:List Int).getD i 0))+(by_:Int)))})) ty3 rfl rfl rfl 0 rfl rfl rfl rfl rfl rfl) (fun _=>(mk [false,true,true,true,true] rfl)) (fun _=>fn0) fun _=>?_
    refine zhp [18] 1 (zml 20 524287) [(87,pt b16 2)] ?_
    refine zho 19 [bx b9 [iv 65536,iv 10000,iv 7,iv 4,iv 2] 85,bx b3 (A0 ({Act.zero with kind:=(IntKind.i64.wrap ((1:Int)+(d.kind % 46)))})) 26,bx b2 (A0 Act.zero) 26,bx b1 (M5 d) 41] (zml 20 1048575) rfl (P0 (us:=[iv (Int.tmod d.m (([65536,10000,7,4,2]:List Int).getD k 0))]) (cs':=A0 ({Act.zero with kind:=(IntKind.i64.wrap ((1:Int)+(d.kind % 46))),n:=(IntKind.i64.wrap ((Int.tmod d.n (([65536,10000,7,4,2]:List Int).getD i 0))+(by_:Int))),m:=(Int.tmod d.m (([65536,10000,7,4,2]:List Int).getD k 0))})) ty3 rfl rfl rfl 0 rfl rfl rfl rfl rfl rfl) (fun _=>(mk [false,true,true,true,true] rfl)) (fun _=>fn0) fun _=>?_
    refine A8b (by kernel_rfl) ?_
    refine A7 (sr 2 rfl (zrl 1 1 [0] [(88,ag (A0 ({Act.zero with kind:=(IntKind.i64.wrap ((1:Int)+(d.kind % 46))),n:=(IntKind.i64.wrap ((Int.tmod d.n (([65536,10000,7,4,2]:List Int).getD i 0))+(by_:Int))),m:=(Int.tmod d.m (([65536,10000,7,4,2]:List Int).getD k 0))})))] ?_))
    refine zca (A5b ({Act.zero with kind:=(IntKind.i64.wrap ((1:Int)+(d.kind % 46))),n:=(IntKind.i64.wrap ((Int.tmod d.n (([65536,10000,7,4,2]:List Int).getD i 0))+(by_:Int))),m:=(Int.tmod d.m (([65536,10000,7,4,2]:List Int).getD k 0))}) _ rfl) fn0 (ie ?_)
    refine zjb rfl hR ?_ ?_<;>clear hR<;>intro hR h17
    ·refine sr 2 rfl (zrg 2 0 [0,3] [] [bx b16 (A0 ({Act.zero with kind:=(IntKind.i64.wrap ((1:Int)+(d.kind % 46))),n:=(IntKind.i64.wrap ((Int.tmod d.n (([65536,10000,7,4,2]:List Int).getD i 0))+(by_:Int))),m:=(Int.tmod d.m (([65536,10000,7,4,2]:List Int).getD k 0))})) 26,bx b9 [iv 65536,iv 10000,iv 7,iv 4,iv 2] 85,bx b3 (A0 ({Act.zero with kind:=(IntKind.i64.wrap ((1:Int)+(d.kind % 46)))})) 26,bx b2 (A0 ({Act.zero with kind:=(IntKind.i64.wrap ((1:Int)+(d.kind % 46))),n:=(IntKind.i64.wrap ((Int.tmod d.n (([65536,10000,7,4,2]:List Int).getD i 0))+(by_:Int))),m:=(Int.tmod d.m (([65536,10000,7,4,2]:List Int).getD k 0))})) 26,bx b1 (M5 d) 41] ?_)
     subst hR
     refine ie (A5 ?_)
     exact zer hr hD (M3 rfl (D4 (us:=A0 ({Act.zero with kind:=(IntKind.i64.wrap ((1:Int)+(d.kind % 46))),n:=(IntKind.i64.wrap ((Int.tmod d.n (([65536,10000,7,4,2]:List Int).getD i 0))+(by_:Int))),m:=(Int.tmod d.m (([65536,10000,7,4,2]:List Int).getD k 0))})) A3a rfl 3 rfl rfl rfl)) () (mk [false,false,false,false,false] rfl) fn0
    refine A4 (nx (sr 5 rfl (zrl 2 3 [0] [(92,iv (Int.tmod d.m (([65536,10000,7,4,2]:List Int).getD k 0)))] (ix rfl (G4.pure rfl) (zrg 2 0 [0] [] [bx b16 (A0 ({Act.zero with kind:=(IntKind.i64.wrap ((1:Int)+(d.kind % 46))),n:=(IntKind.i64.wrap ((Int.tmod d.n (([65536,10000,7,4,2]:List Int).getD i 0))+(by_:Int))),m:=(IntKind.i64.wrap ((Int.tmod d.m (([65536,10000,7,4,2]:List Int).getD k 0))+(1:Int)))})) 26,bx b9 [iv 65536,iv 10000,iv 7,iv 4,iv 2] 85,bx b3 (A0 ({Act.zero with kind:=(IntKind.i64.wrap ((1:Int)+(d.kind % 46)))})) 26,bx b2 (A0 Act.zero) 26,bx b1 (M5 d) 41] (ie (A7 (sr 2 rfl (zrl 1 1 [0] [(95,ag (A0 ({Act.zero with kind:=(IntKind.i64.wrap ((1:Int)+(d.kind % 46))),n:=(IntKind.i64.wrap ((Int.tmod d.n (([65536,10000,7,4,2]:List Int).getD i 0))+(by_:Int))),m:=(IntKind.i64.wrap ((Int.tmod d.m (([65536,10000,7,4,2]:List Int).getD k 0))+(1:Int)))})))] (zca (A5b ({Act.zero with kind:=(IntKind.i64.wrap ((1:Int)+(d.kind % 46))),n:=(IntKind.i64.wrap ((Int.tmod d.n (([65536,10000,7,4,2]:List Int).getD i 0))+(by_:Int))),m:=(IntKind.i64.wrap ((Int.tmod d.m (([65536,10000,7,4,2]:List Int).getD k 0))+(1:Int)))}) _ rfl) fn0 (ie ?_)))))))))))
    refine zjb rfl hR ?_ ?_<;>clear hR<;>intro hR h18
    ·refine sr 2 rfl (zrg 2 0 [0,3] [] [bx b16 (A0 ({Act.zero with kind:=(IntKind.i64.wrap ((1:Int)+(d.kind % 46))),n:=(IntKind.i64.wrap ((Int.tmod d.n (([65536,10000,7,4,2]:List Int).getD i 0))+(by_:Int))),m:=(IntKind.i64.wrap ((Int.tmod d.m (([65536,10000,7,4,2]:List Int).getD k 0))+(1:Int)))})) 26,bx b9 [iv 65536,iv 10000,iv 7,iv 4,iv 2] 85,bx b3 (A0 ({Act.zero with kind:=(IntKind.i64.wrap ((1:Int)+(d.kind % 46)))})) 26,bx b2 (A0 ({Act.zero with kind:=(IntKind.i64.wrap ((1:Int)+(d.kind % 46))),n:=(IntKind.i64.wrap ((Int.tmod d.n (([65536,10000,7,4,2]:List Int).getD i 0))+(by_:Int))),m:=(IntKind.i64.wrap ((Int.tmod d.m (([65536,10000,7,4,2]:List Int).getD k 0))+(1:Int)))})) 26,bx b1 (M5 d) 41] ?_)
     subst hR
     refine ie (A5 ?_)
     exact zer hr hD (M3 rfl (D4 (us:=A0 ({Act.zero with kind:=(IntKind.i64.wrap ((1:Int)+(d.kind % 46))),n:=(IntKind.i64.wrap ((Int.tmod d.n (([65536,10000,7,4,2]:List Int).getD i 0))+(by_:Int))),m:=(IntKind.i64.wrap ((Int.tmod d.m (([65536,10000,7,4,2]:List Int).getD k 0))+(1:Int)))})) A3a rfl 3 rfl rfl rfl)) () (mk [false,false,false,false,false] rfl) fn0
    refine A4 (nx (sr 2 rfl (zrg 2 0 [0] [] [bx b16 (A0 ({Act.zero with kind:=(IntKind.i64.wrap ((1:Int)+(d.kind % 46))),n:=(IntKind.i64.wrap ((Int.tmod d.n (([65536,10000,7,4,2]:List Int).getD i 0))+(by_:Int))),m:=0})) 26,bx b9 [iv 65536,iv 10000,iv 7,iv 4,iv 2] 85,bx b3 (A0 ({Act.zero with kind:=(IntKind.i64.wrap ((1:Int)+(d.kind % 46)))})) 26,bx b2 (A0 Act.zero) 26,bx b1 (M5 d) 41] (ie (sr 2 rfl (zrl 1 1 [0] [(99,ag (A0 ({Act.zero with kind:=(IntKind.i64.wrap ((1:Int)+(d.kind % 46))),n:=(IntKind.i64.wrap ((Int.tmod d.n (([65536,10000,7,4,2]:List Int).getD i 0))+(by_:Int))),m:=0})))] (zca (A5b ({Act.zero with kind:=(IntKind.i64.wrap ((1:Int)+(d.kind % 46))),n:=(IntKind.i64.wrap ((Int.tmod d.n (([65536,10000,7,4,2]:List Int).getD i 0))+(by_:Int))),m:=0}) _ rfl) fn0 (ie ?_))))))))
    refine zjb rfl hR ?_ ?_<;>clear hR<;>intro hR h19
    ·refine sr 2 rfl (zrg 2 0 [0,3] [] [bx b16 (A0 ({Act.zero with kind:=(IntKind.i64.wrap ((1:Int)+(d.kind % 46))),n:=(IntKind.i64.wrap ((Int.tmod d.n (([65536,10000,7,4,2]:List Int).getD i 0))+(by_:Int))),m:=0})) 26,bx b9 [iv 65536,iv 10000,iv 7,iv 4,iv 2] 85,bx b3 (A0 ({Act.zero with kind:=(IntKind.i64.wrap ((1:Int)+(d.kind % 46)))})) 26,bx b2 (A0 ({Act.zero with kind:=(IntKind.i64.wrap ((1:Int)+(d.kind % 46))),n:=(IntKind.i64.wrap ((Int.tmod d.n (([65536,10000,7,4,2]:List Int).getD i 0))+(by_:Int))),m:=0})) 26,bx b1 (M5 d) 41] ?_)
     subst hR
     refine ie (A5 ?_)
     exact zer hr hD (M3 rfl (D4 (us:=A0 ({Act.zero with kind:=(IntKind.i64.wrap ((1:Int)+(d.kind % 46))),n:=(IntKind.i64.wrap ((Int.tmod d.n (([65536,10000,7,4,2]:List Int).getD i 0))+(by_:Int))),m:=0})) A3a rfl 3 rfl rfl rfl)) () (mk [false,false,false,false,false] rfl) fn0
    refine A4 (nx (A2 3 rfl (ip' 1 2 [(67,iv (by_:Int))] (ix rfl (B5 rfl rfl rfl rfl (by omega)) (ip' 1 0 [(7,iv ((by_:Int)+1))] (A3 ?_))))))
    exact C6d (z1:=(fu5+1)) (z2:=by_) fu5 (by_+1) ⟨(by omega),hR⟩ (Nat.lt_succ_self _) (mk [false,true,true,true,true] rfl) fn0
   refine G6 (nx (A2 3 rfl (ip' 1 2 [(63,iv (k:Int))] ?_)))
   refine ix rfl (B5 rfl rfl rfl rfl (by omega)) (ip' 1 0 [(6,iv ((k:Int)+1))] (A3 ?_))
   exact C6d (z1:=(fu3+1)) (z2:=k) fu3 (k+1) ⟨(by omega),hR⟩ (Nat.lt_succ_self _) (mk [true,true,true,true] rfl) fn0
  refine G6 (nx (A2 3 rfl (ip' 1 2 [(59,iv (i:Int))] ?_)))
  refine ix rfl (B5 rfl rfl rfl rfl (by omega)) (ip' 1 0 [(5,iv ((i:Int)+1))] (A3 ?_))
  exact C6d (z1:=(fu1+1)) (z2:=i) fu1 (i+1) ⟨(by omega),hR⟩ (Nat.lt_succ_self _) (mk [true,true,true,true] rfl) fn0
 refine G6 (nx (sr 2 rfl (zrg 2 0 [2] [] [bx b9 [iv 65536,iv 10000,iv 7,iv 4,iv 2] 85,bx b3 (A0 ({Act.zero with kind:=(IntKind.i64.wrap ((1:Int)+(d.kind % 46)))})) 26,bx b2 (A0 ({Act.zero with kind:=2})) 26,bx b1 (M5 d) 41] ?_)))
 subst hR
 refine ie (A5 ?_)
 exact zer hr hD (M3 rfl (D4 (us:=A0 ({Act.zero with kind:=2})) A3a rfl 2 rfl rfl rfl)) () (mk [false,false,false,false] rfl) fn0
def Y1 (l:List Drf):Nat→List Act→Nat→List Act
 | 0,_,_=>[]
 | fu1+1,out,i=>(bif ((decide ((i:Int)<(l.length:Int)))&&(decide ((i:Int)<40))) then Y1 l fu1 (out++([(J3 (l.getD i Drf.zero))]:List Act)) (i+1) else out)
def A9n (l:List Drf):List Act :=
 Y1 l ((40 - 0)+1) ([]:List Act) 0
theorem B1c (l:List Drf):∀ (fu:Nat) (out:List Act) (i:Nat),(∀ a ∈ out,a.text.length≤300)→∀ a ∈ Y1 l fu out i,a.text.length≤300
 | 0,_,_,_=>fun a ha=>by cases ha
 | fu+1,out,i,h=>by
  rw [Y1]
  simp only [Bool.cond_eq_ite]
  split
  ·refine B1c l fu _ _ ?_
   intro a ha
   rcases List.mem_append.1 ha with ha | ha
   ·exact h a ha
   ·rw [List.mem_singleton.1 ha];exact A5v _
  ·exact h
theorem C3s (l:List Drf):∀ a ∈ A9n l,a.text.length≤300:=B1c l _ _ _ (fun a ha=>by cases ha)
theorem B3l (l:List Drf):∀ (fu:Nat) (out:List Act) (i:Nat),out.length=i→i≤40→(Y1 l fu out i).length≤40
 | 0,_,_,_,_=>Nat.zero_le _
 | fu+1,out,i,h,h4=>by
  rw [Y1]
  simp only [Bool.cond_eq_ite,Bool.and_eq_true,decide_eq_true_eq]
  split
  ·exact B3l l fu _ _ (by simp [h]) (by omega)
  ·omega
theorem C5t (l:List Drf):(A9n l).length≤40:=B3l l _ _ _ rfl (by omega)
theorem D1t (l:List Drf) (lq:Option Addr) (lk:Nat) (hll:l.length≤9223372036854775807) (hcl:l.length≤lk) (hdl:∀ d ∈ l,B3h d) (R:List Act) (hR:A9n l=R):Con Tryz.prog 14 [.slice lq l.length lk] [] [sl M5 lq l] ({r:VR // VOk 6 R.length r}) (fun x=>.slice (va x.1.q) R.length x.1.k) (fun x=>((vo A0 26 x.1 R)++([]))) (fun x=>[]):=by
 refine zco Tryz.func14 [(0,.slice lq l.length lk)] fun X hX hr hD=>?_
 replace hR:=(A9n.eq_1 ..).symm.trans hR
 refine sr 1 rfl (ip' 1 0 [] (ie (sr 1 rfl (ip' 1 0 [(3,.slice none 0 0)] (ie (A7 (sr 1 rfl (ip' 1 0 [(4,iv 0)] (ie (B1 ?_))))))))))
 refine B7z (fun (fu:Nat) (out:List Act) (outr:VR) (i:Nat)=>((40 - i)<fu∧Y1 l fu out i=R∧VOk 6 out.length outr∧out.length=i,[(0,.slice lq l.length lk),(3,.slice (va outr.q) out.length outr.k),(4,iv (i:Int))],((vo A0 26 outr out)++([])),[sl M5 lq l],fu)) ((40 - 0)+1) ([]:List Act) VR.nil 0 ⟨(Nat.lt_succ_self _),hR,VOk.nil,(by rfl)⟩ (mc [vo A0 26 VR.nil ([]:List Act)] [true] rfl (by first|rfl|(simp only [List.length_set]<;>rfl))) A1.refl ?_
 rintro fu out outr i ⟨hm1,hR,hokoutr,ho⟩
 have:=VOk.le hokoutr
 obtain ⟨fu1,rfl⟩:∃ m,fu=m+1:=⟨fu - 1,by omega⟩
 replace hR:=(Y1.eq_2 ..).symm.trans hR
 refine A7 (sr 8 rfl (ip' 5 3 [(9,bv (decide ((i:Int)<(l.length:Int))))] ?_))
 refine zid 3 0 9 12 (decide ((i:Int)<40)) (fun g2 g2p=>?_) ?_
 ·refine ip' 3 0 [(12,bv (decide ((i:Int)<40)))] ?_
  exact A3 (K5 2 9 12 g2 A1.refl (mc [vo A0 26 outr out] [true] rfl (by first|rfl|(simp only [List.length_set]<;>rfl))) rfl rfl rfl rfl rfl)
 refine ie ?_
 refine zja rfl hR ?_ ?_<;>clear hR<;>intro hR h3 h3p
 ·refine A4 (nx (A7 (B1 (A2 9 rfl (ip' 3 6 [(15,.slice (va outr.q) out.length outr.k),(16,.slice lq l.length lk),(17,iv (i:Int))] (K9 0 rfl (by omega) fun a4 hq5=>(ix rfl (G3 E5j rfl rfl hq5 rfl i rfl (by omega)) (ix rfl (Q3 (us:=M5 (l.getD i Drf.zero)) E6r rfl rfl (I4 (c:=M5) (sz:=5) hq5 (fun _=>rfl) 0 rfl (gd Drf.zero (by omega))) rfl) (zca (B5m (l.getD i Drf.zero) (by first|assumption|(exact hdl _ (List.getElem_mem (by omega)))|(rw [gdE (by omega)];exact hdl _ (List.getElem_mem (by omega)))) _ rfl) fn0 ?_)))))))))
  have:=A5v (l.getD i Drf.zero)
  refine it rfl (B4 (c:=A0) (xs:=([(J3 (l.getD i Drf.zero))]:List Act)) A0d rfl rfl rfl (by kernel_rfl)) fun b6=>?_
  have:([(J3 (l.getD i Drf.zero))]:List Act).length=1:=rfl
  refine it rfl (A5c (f:=A0) (r:=outr) (xs:=out) (ys:=([(J3 (l.getD i Drf.zero))]:List Act)) (pre:=[]) (post:=[]) C0p (fun _=>rfl) (fun _=>rfl) rfl rfl rfl rfl rfl rfl rfl rfl rfl (A9 0 rfl) hokoutr (by first|omega|(simp<;>omega)) (by first|omega|(simp<;>omega))) fun ⟨r7,hr8⟩=>?_
  have:=VOk.le hr8
  have:=VOk.cap hr8
  refine ip' 1 0 [(3,.slice (va r7.q) ((out++([(J3 (l.getD i Drf.zero))]:List Act)).length) r7.k)] (A3 (nx (A2 3 rfl (ip' 1 2 [(13,iv (i:Int))] (ix rfl (B5 rfl rfl rfl rfl (by omega)) (ip' 1 0 [(4,iv ((i:Int)+1))] (A3 ?_)))))))
  exact B4p (z1:=(fu1+1)) (z2:=out) (z3:=outr) (z4:=i) fu1 (out++([(J3 (l.getD i Drf.zero))]:List Act)) r7 (i+1) ⟨(by omega),hR,hr8,(by (simp<;>omega))⟩ (Nat.lt_succ_self _) (mc [vo A0 26 r7 (out++([(J3 (l.getD i Drf.zero))]:List Act))] [true] rfl (by first|rfl|(simp only [List.length_set]<;>rfl))) (A1.pick [1] rfl)
 refine G6 (nx (sr 2 rfl (ip' 2 0 [(2,.slice (va outr.q) out.length outr.k)] ?_)))
 subst hR
 refine ie (A5 ?_)
 exact zer hr hD (M3 rfl (B7 rfl)) ⟨outr,hokoutr⟩ (mc [vo A0 26 outr out] [true] rfl (by first|rfl|(simp only [List.length_set]<;>rfl))) fn0
end Go.Proofs.YtanighkpfmgnbaaGreatDoor
set_option linter.unusedVariables false
set_option linter.unusedSimpArgs false
set_option linter.unnecessarySimpa false
set_option maxRecDepth 100000
namespace Go.Proofs.YtanighkpfmgnbaaGreatDoor
open Go Go.Fen
def C0u:List UInt8:=[27,91,72,27,91,53,72,27,91,59,53,72,27,91,50,59,51,72]
def B9c:List UInt8:=[27,91,67,27,91,55,67,27,91,74,27,91,50,74]
def C2l:List UInt8:=[27,91,63,50,53,104,27,91,48,36,112,27,91,59,52,114,27,91,32,113]
def B0 (kind:Int) (n:Int) (m:Int):Act :=
 {Act.zero with kind:=kind,n:=n,m:=m}
theorem Q4 (kind:Int) (n:Int) (m:Int) (R:Act) (hR:B0 kind n m=R):I5 Tryz.prog 23 [iv kind,iv n,iv m] [] (ag (A0 R)):=by
 refine zco Tryz.func23 [(0,iv kind),(1,iv n),(2,iv m)] fun X hX hr hD=>?_
 replace hR:=(B0.eq_1 ..).symm.trans hR
 refine sr 1 rfl (O5 1 0 [] (fun b1=>[(6,pt b1 0)]) (fun b1=>[bx b1 (A0 Act.zero) 26]) (fun b1=>(ie (sr 5 rfl (zrg 5 0 [0] [] [bx b1 (A0 ({Act.zero with kind:=kind,n:=n,m:=m})) 26] ?_)))))
 subst hR
 refine ie (A5 ?_)
 exact zer hr hD (M3 rfl (D4 (us:=A0 ({Act.zero with kind:=kind,n:=n,m:=m})) A3a rfl 0 rfl rfl rfl)) () (mk [false] rfl) fn0
def K0 (s:List UInt8) (l:List Act):Bool :=
 (B8 (Q5 l) fun (y0:List UInt8×Int)=>((decide (y0.1=s))&&(decide (y0.2=0))))
theorem A9w (s:List UInt8) (l:List Act) (lq:Option Addr) (lk:Nat) (hll:l.length≤9223372036854775807) (hcl:l.length≤lk) (hkind:∀ a ∈ l,a.text.length≤100000000) (R:Bool) (hR:K0 s l=R):I5 Tryz.prog 22 [sv s,.slice lq l.length lk] [sl A0 lq l,B5e,B5q,P8,P2,L9,S7] (bv R):=by
 refine zco Tryz.func22 [(0,sv s),(1,.slice lq l.length lk)] fun X hX hr hD=>?_
 replace hR:=(K0.eq_1 ..).symm.trans hR
 refine sr 1 rfl (ip' 1 0 [] (ie (sr 7 rfl (ip' 1 6 [(8,.slice lq l.length lk)] ?_))))
 have hQ:=C2 hR;clear hR;obtain ⟨y0,hy0,hR⟩:=hQ
 refine it rfl (C3 (L2:=[]) (A6r l lq lk (by first|omega|(simp<;>omega)|(dsimp only;omega)|decide) (by first|omega|(simp<;>omega)|(dsimp only;omega)|decide) (by first|assumption|decide|exact fun x hx=>Nat.le_trans (hrow x hx) (by decide)|exact fun x hx=>Nat.le_trans (of_decide_eq_true (List.all_eq_true.1 hbt x hx)) (by decide)|(intro x hx;simp only [List.nil_append,List.mem_append] at hx;rcases hx with hx|hx<;>first|exact Nat.le_trans (hrow x hx) (by decide)|exact Nat.le_trans (hpt x hx) (by decide))|(intro x hx;rw [List.mem_singleton.1 hx];omega)|exact fun x hx=>Nat.le_trans (hrow x (List.mem_of_mem_take hx)) (by decide)|exact fun x hx=>Nat.le_trans (hrow x (List.mem_of_mem_drop hx)) (by decide)|exact fun x hx=>Nat.le_trans (hrow x (List.mem_of_mem_drop (List.mem_of_mem_take hx))) (by decide)|omega) y0 hy0) rfl rfl rfl rfl rfl A1.refl (List.Perm.refl _) (fun ⟨r1,hk2⟩=>((vo cU8 5 r1 y0.1)++([]))) (fun _=>by first|rfl|simp)) fun ⟨r1,hk2⟩=>?_
 have:=VOk.le hk2
 have:=VOk.cap hk2
 try have:=A4d l (fun x hx=>Nat.le_trans (hrow x (by first|exact hx|exact List.mem_of_mem_take hx|exact List.mem_of_mem_drop hx)) (by decide));try rw [hy0] at this
 refine Y5 [] [] (T:=5) (c:=cU8) (r:=r1) (xs:=y0.1) hk2 (by first|rfl|simp) ?_
 refine ip' 5 0 [(5,.slice (va r1.q) y0.1.length r1.k),(6,iv y0.2)] (ie (sr 9 rfl (ip' 1 8 [(12,.slice (va r1.q) y0.1.length r1.k)] (ix rfl (A1s Tryz.underlying9 Tryz.underlying30 rfl rfl (A9 0 rfl) rfl (by kernel_rfl)) (ip' 1 6 [(14,sv s)] (ix rfl (B8n rfl rfl rfl) (ip' 1 4 [(16,bv (decide (y0.1=s)))] ?_)))))))
 refine zid 3 1 16 19 (decide (y0.2=0)) (fun g3 g3p=>?_) ?_
 ·refine ip' 3 0 [(19,bv (decide (y0.2=0)))] ?_
  exact zai 2 16 19 g3
 refine ip' 1 0 [(4,bv ((decide (y0.1=s))&&(decide (y0.2=0))))] ?_
 subst hR
 refine ie (A5 ?_)
 exact C8 hr hD
def A7v:Bool :=
 (((((K0 C0u ([(B0 19 1 1),(B0 19 5 1),(B0 19 1 5),(B0 19 2 3)]:List Act))&&(K0 B9c ([(B0 20 2 1),(B0 20 2 7),(B0 26 0 0),(B0 26 2 0)]:List Act)))&&(K0 ([27,91,49,59,51,49,109,97,27,91,48,109]:List UInt8) ([(B0 39 1 1),{Act.zero with kind:=39,n:=4,color:=(⟨1,1⟩:Col)},(B0 1 97 0),(B0 39 0 0)]:List Act)))&&(K0 C2l ([(B0 37 25 1),(B0 43 0 0),(B0 38 0 4),(B0 40 0 0)]:List Act)))&&(K0 ([27,93,50,59,116,27,92,27,43,48,14]:List UInt8) ([{Act.zero with kind:=44,text:=([116]:List UInt8)},(B0 17 3 1),(B0 7 1 0)]:List Act)))
theorem C5a (R:Bool) (hR:A7v=R):I5 Tryz.prog 17 [] [B5e,B5q,P8,P2,L9,S7] (bv R):=by
 refine zco Tryz.func17 [] fun X hX hr hD=>?_
 replace hR:=(A7v.eq_1 ..).symm.trans hR
 refine sr 1 rfl (ip' 1 0 [] (ie (sr 15 rfl (zca (Q4 19 1 1 _ rfl) fn0 ?_))))
 refine zca (Q4 19 5 1 _ rfl) fn0 ?_
 refine zca (Q4 19 1 5 _ rfl) fn0 ?_
 refine zca (Q4 19 2 3 _ rfl) fn0 ?_
 refine it rfl (B4 (c:=A0) (xs:=([(B0 19 1 1),(B0 19 5 1),(B0 19 1 5),(B0 19 2 3)]:List Act)) A0d rfl rfl rfl (by kernel_rfl)) fun b1=>?_
 have:([(B0 19 1 1),(B0 19 5 1),(B0 19 1 5),(B0 19 2 3)]:List Act).length=4:=rfl
 refine zca (A9w C0u ([(B0 19 1 1),(B0 19 5 1),(B0 19 1 5),(B0 19 2 3)]:List Act) (some ⟨b1,0,none⟩) 4 (by first|omega|(simp<;>omega)|(dsimp only;omega)|decide) (by first|omega|(simp<;>omega)|(dsimp only;omega)|decide) (by first|assumption|decide|omega) _ rfl) A1.refl (ip' 1 8 [(11,bv (K0 C0u ([(B0 19 1 1),(B0 19 5 1),(B0 19 1 5),(B0 19 2 3)]:List Act)))] ?_)
 refine zia 7 1 11 18 (K0 B9c ([(B0 20 2 1),(B0 20 2 7),(B0 26 0 0),(B0 26 2 0)]:List Act)) (fun g2=>?_) ?_
 ·refine zca (Q4 20 2 1 _ rfl) fn0 ?_
  refine zca (Q4 20 2 7 _ rfl) fn0 ?_
  refine zca (Q4 26 0 0 _ rfl) fn0 ?_
  refine zca (Q4 26 2 0 _ rfl) fn0 ?_
  refine it rfl (B4 (c:=A0) (xs:=([(B0 20 2 1),(B0 20 2 7),(B0 26 0 0),(B0 26 2 0)]:List Act)) A0d rfl rfl rfl (by kernel_rfl)) fun b3=>?_
  have:([(B0 20 2 1),(B0 20 2 7),(B0 26 0 0),(B0 26 2 0)]:List Act).length=4:=rfl
  refine zca (A9w B9c ([(B0 20 2 1),(B0 20 2 7),(B0 26 0 0),(B0 26 2 0)]:List Act) (some ⟨b3,0,none⟩) 4 (by first|omega|(simp<;>omega)|(dsimp only;omega)|decide) (by first|omega|(simp<;>omega)|(dsimp only;omega)|decide) (by first|assumption|decide|omega) _ rfl) (A1.pick [0,2,3,4,5,6,7] rfl) (ip' 1 0 [(18,bv (K0 B9c ([(B0 20 2 1),(B0 20 2 7),(B0 26 0 0),(B0 26 2 0)]:List Act)))] ?_)
  exact A3 (K5 8 11 18 g2 (A1.pick [1,2,3,4,5,6,7] rfl) (mk [] rfl) rfl rfl rfl rfl rfl)
 refine ip' 1 0 [(1,bv ((K0 C0u ([(B0 19 1 1),(B0 19 5 1),(B0 19 1 5),(B0 19 2 3)]:List Act))&&(K0 B9c ([(B0 20 2 1),(B0 20 2 7),(B0 26 0 0),(B0 26 2 0)]:List Act))))] (ie (sr 4 rfl (O5 4 0 [0] (fun b4=>[(2,pt b4 0)]) (fun b4=>[bx b4 (A0 ({Act.zero with kind:=39,n:=4,color:=(⟨1,1⟩:Col)})) 26]) (fun b4=>(ie (sh 7 [(7,[bx b4 (A0 ({Act.zero with kind:=39,n:=4,color:=(⟨1,1⟩:Col)})) 26])] [sl A0 (some ⟨b1,0,none⟩) ([(B0 19 1 1),(B0 19 5 1),(B0 19 1 5),(B0 19 2 3)]:List Act),B5e,B5q,P8,P2,L9,S7] [bx b4 (A0 ({Act.zero with kind:=39,n:=4,color:=(⟨1,1⟩:Col)})) 26] (zml 7 0) (by kernel_rfl) rfl (by kernel_rfl) (by kernel_rfl) (by kernel_rfl) (mk [true] rfl) A1.refl (zhl 1 [bx b4 (A0 ({Act.zero with kind:=39,n:=4,color:=(⟨1,1⟩:Col)})) 26] (zml 7 2) rfl (J7 (us:=A0 ({Act.zero with kind:=39,n:=4,color:=(⟨1,1⟩:Col)})) A3a rfl rfl 0 rfl rfl rfl) ?_)))))))
 refine zho 0 [bx b4 (A0 ({Act.zero with kind:=39,n:=4,color:=(⟨1,1⟩:Col)})) 26] (zml 7 3) rfl (Det.tri (A1e (Q4 39 1 1 _ rfl) rfl rfl rfl rfl rfl fn0)) (fun _=>(mk [true] rfl)) (fun _=>A1.refl) fun _=>?_
 refine zho 2 [bx b4 (A0 ({Act.zero with kind:=39,n:=4,color:=(⟨1,1⟩:Col)})) 26] (zml 7 7) rfl (Det.tri (A1e (Q4 1 97 0 _ rfl) rfl rfl rfl rfl rfl fn0)) (fun _=>(mk [true] rfl)) (fun _=>A1.refl) fun _=>?_
 refine zho 3 [bx b4 (A0 ({Act.zero with kind:=39,n:=4,color:=(⟨1,1⟩:Col)})) 26] (zml 7 15) rfl (Det.tri (A1e (Q4 39 0 0 _ rfl) rfl rfl rfl rfl rfl fn0)) (fun _=>(mk [true] rfl)) (fun _=>A1.refl) fun _=>?_
 refine zho 4 [bx b4 (A0 ({Act.zero with kind:=39,n:=4,color:=(⟨1,1⟩:Col)})) 26] (zml 7 31) rfl (B4 (c:=A0) (xs:=([(B0 39 1 1),{Act.zero with kind:=39,n:=4,color:=(⟨1,1⟩:Col)},(B0 1 97 0),(B0 39 0 0)]:List Act)) A0d rfl rfl rfl (by kernel_rfl)) (fun b5=>(mk [true] rfl)) (fun b5=>(A1.pick [1,2,3,4,5,6,7] rfl)) fun b5=>?_
 have:([(B0 39 1 1),{Act.zero with kind:=39,n:=4,color:=(⟨1,1⟩:Col)},(B0 1 97 0),(B0 39 0 0)]:List Act).length=4:=rfl
 refine zho 5 [bx b4 (A0 ({Act.zero with kind:=39,n:=4,color:=(⟨1,1⟩:Col)})) 26] (zml 7 63) rfl (Det.tri (A1e (A9w ([27,91,49,59,51,49,109,97,27,91,48,109]:List UInt8) ([(B0 39 1 1),{Act.zero with kind:=39,n:=4,color:=(⟨1,1⟩:Col)},(B0 1 97 0),(B0 39 0 0)]:List Act) (some ⟨b5,0,none⟩) 4 (by first|omega|(simp<;>omega)|(dsimp only;omega)|decide) (by first|omega|(simp<;>omega)|(dsimp only;omega)|decide) (by first|assumption|decide|omega) _ rfl) rfl rfl rfl rfl rfl (A1.pick [0,2,3,4,5,6,7] rfl))) (fun _=>(mk [true] rfl)) (fun _=>(A1.pick [1,2,3,4,5,6,7] rfl)) fun _=>?_
 refine zhp [6] 0 (zml 7 127) [(3,bv (K0 ([27,91,49,59,51,49,109,97,27,91,48,109]:List UInt8) ([(B0 39 1 1),{Act.zero with kind:=39,n:=4,color:=(⟨1,1⟩:Col)},(B0 1 97 0),(B0 39 0 0)]:List Act)))] ?_
 refine A8b (by kernel_rfl) ?_
 refine sr 7 rfl (zca (Q4 37 25 1 _ rfl) fn0 ?_)
 refine zca (Q4 43 0 0 _ rfl) fn0 ?_
 refine zca (Q4 38 0 4 _ rfl) fn0 ?_
 refine zca (Q4 40 0 0 _ rfl) fn0 ?_
 refine it rfl (B4 (c:=A0) (xs:=([(B0 37 25 1),(B0 43 0 0),(B0 38 0 4),(B0 40 0 0)]:List Act)) A0d rfl rfl rfl (by kernel_rfl)) fun b6=>?_
 have:([(B0 37 25 1),(B0 43 0 0),(B0 38 0 4),(B0 40 0 0)]:List Act).length=4:=rfl
 refine zca (A9w C2l ([(B0 37 25 1),(B0 43 0 0),(B0 38 0 4),(B0 40 0 0)]:List Act) (some ⟨b6,0,none⟩) 4 (by first|omega|(simp<;>omega)|(dsimp only;omega)|decide) (by first|omega|(simp<;>omega)|(dsimp only;omega)|decide) (by first|assumption|decide|omega) _ rfl) (A1.pick [0,3,4,5,6,7,8] rfl) (ip' 1 0 [(4,bv (K0 C2l ([(B0 37 25 1),(B0 43 0 0),(B0 38 0 4),(B0 40 0 0)]:List Act)))] (ie (sr 15 rfl (ip' 2 13 [(34,bv ((K0 C0u ([(B0 19 1 1),(B0 19 5 1),(B0 19 1 5),(B0 19 2 3)]:List Act))&&(K0 B9c ([(B0 20 2 1),(B0 20 2 7),(B0 26 0 0),(B0 26 2 0)]:List Act))))] ?_))))
 refine zia 2 11 34 36 (K0 ([27,91,49,59,51,49,109,97,27,91,48,109]:List UInt8) ([(B0 39 1 1),{Act.zero with kind:=39,n:=4,color:=(⟨1,1⟩:Col)},(B0 1 97 0),(B0 39 0 0)]:List Act)) (fun g7=>?_) ?_
 ·have g7p:=g7;try simp at g7p
  refine ip' 2 0 [(36,bv (K0 ([27,91,49,59,51,49,109,97,27,91,48,109]:List UInt8) ([(B0 39 1 1),{Act.zero with kind:=39,n:=4,color:=(⟨1,1⟩:Col)},(B0 1 97 0),(B0 39 0 0)]:List Act)))] ?_
  exact zai 2 34 36 g7
 refine ip' 1 10 [(37,bv (((K0 C0u ([(B0 19 1 1),(B0 19 5 1),(B0 19 1 5),(B0 19 2 3)]:List Act))&&(K0 B9c ([(B0 20 2 1),(B0 20 2 7),(B0 26 0 0),(B0 26 2 0)]:List Act)))&&(K0 ([27,91,49,59,51,49,109,97,27,91,48,109]:List UInt8) ([(B0 39 1 1),{Act.zero with kind:=39,n:=4,color:=(⟨1,1⟩:Col)},(B0 1 97 0),(B0 39 0 0)]:List Act))))] ?_
 refine zia 2 8 37 39 (K0 C2l ([(B0 37 25 1),(B0 43 0 0),(B0 38 0 4),(B0 40 0 0)]:List Act)) (fun g8=>?_) ?_
 ·have g8p:=g8;try simp at g8p
  refine ip' 2 0 [(39,bv (K0 C2l ([(B0 37 25 1),(B0 43 0 0),(B0 38 0 4),(B0 40 0 0)]:List Act)))] ?_
  exact zai 2 37 39 g8
 refine ip' 1 7 [(40,bv ((((K0 C0u ([(B0 19 1 1),(B0 19 5 1),(B0 19 1 5),(B0 19 2 3)]:List Act))&&(K0 B9c ([(B0 20 2 1),(B0 20 2 7),(B0 26 0 0),(B0 26 2 0)]:List Act)))&&(K0 ([27,91,49,59,51,49,109,97,27,91,48,109]:List UInt8) ([(B0 39 1 1),{Act.zero with kind:=39,n:=4,color:=(⟨1,1⟩:Col)},(B0 1 97 0),(B0 39 0 0)]:List Act)))&&(K0 C2l ([(B0 37 25 1),(B0 43 0 0),(B0 38 0 4),(B0 40 0 0)]:List Act))))] ?_
 refine zia 6 1 40 46 (K0 ([27,93,50,59,116,27,92,27,43,48,14]:List UInt8) ([{Act.zero with kind:=44,text:=([116]:List UInt8)},(B0 17 3 1),(B0 7 1 0)]:List Act)) (fun g9=>?_) ?_
 ·have g9p:=g9;try simp at g9p
  refine zrl 1 5 [] [(41,ag (A0 ({Act.zero with kind:=44,text:=([116]:List UInt8)})))] (zca (Q4 17 3 1 _ rfl) fn0 ?_)
  refine zca (Q4 7 1 0 _ rfl) fn0 ?_
  refine it rfl (B4 (c:=A0) (xs:=([{Act.zero with kind:=44,text:=([116]:List UInt8)},(B0 17 3 1),(B0 7 1 0)]:List Act)) A0d rfl rfl rfl (by kernel_rfl)) fun b10=>?_
  have:([{Act.zero with kind:=44,text:=([116]:List UInt8)},(B0 17 3 1),(B0 7 1 0)]:List Act).length=3:=rfl
  refine zca (A9w ([27,93,50,59,116,27,92,27,43,48,14]:List UInt8) ([{Act.zero with kind:=44,text:=([116]:List UInt8)},(B0 17 3 1),(B0 7 1 0)]:List Act) (some ⟨b10,0,none⟩) 3 (by first|omega|(simp<;>omega)|(dsimp only;omega)|decide) (by first|omega|(simp<;>omega)|(dsimp only;omega)|decide) (by first|assumption|decide|omega) _ rfl) (A1.pick [0,4,5,6,7,8,9] rfl) (ip' 1 0 [(46,bv (K0 ([27,93,50,59,116,27,92,27,43,48,14]:List UInt8) ([{Act.zero with kind:=44,text:=([116]:List UInt8)},(B0 17 3 1),(B0 7 1 0)]:List Act)))] ?_)
  exact A3 (K5 7 40 46 g9 (A1.pick [1,2,3,4,5,6,7,8,9] rfl) (mk [true] rfl) rfl rfl rfl rfl rfl)
 refine ip' 1 0 [(0,bv (((((K0 C0u ([(B0 19 1 1),(B0 19 5 1),(B0 19 1 5),(B0 19 2 3)]:List Act))&&(K0 B9c ([(B0 20 2 1),(B0 20 2 7),(B0 26 0 0),(B0 26 2 0)]:List Act)))&&(K0 ([27,91,49,59,51,49,109,97,27,91,48,109]:List UInt8) ([(B0 39 1 1),{Act.zero with kind:=39,n:=4,color:=(⟨1,1⟩:Col)},(B0 1 97 0),(B0 39 0 0)]:List Act)))&&(K0 C2l ([(B0 37 25 1),(B0 43 0 0),(B0 38 0 4),(B0 40 0 0)]:List Act)))&&(K0 ([27,93,50,59,116,27,92,27,43,48,14]:List UInt8) ([{Act.zero with kind:=44,text:=([116]:List UInt8)},(B0 17 3 1),(B0 7 1 0)]:List Act))))] ?_
 subst hR
 refine ie (A5 ?_)
 exact C8 hr hD
end Go.Proofs.YtanighkpfmgnbaaGreatDoor
set_option linter.unusedVariables false
set_option linter.unusedSimpArgs false
set_option linter.unnecessarySimpa false
set_option maxRecDepth 100000
namespace Go.Proofs.YtanighkpfmgnbaaGreatDoor
open Go Go.Fen
theorem E0p:Ty Tryz.prog 27 1 false:=⟨by kernel_rfl⟩
theorem E1f {m k:Int} (hm:0≤m) (hk:0<k):0≤Int.tmod m k∧Int.tmod m k<k:=⟨Int.tmod_nonneg _ hm,Int.tmod_lt_of_pos _ hk⟩
theorem C0y {l:List Act} (h:∀ a ∈ l,a.text.length≤300):(([]:List Act)++l).all (fun x=>decide (x.text.length≤600))=true :=
 List.all_eq_true.2 fun x hx=>decide_eq_true (Nat.le_trans (h x (by simpa using hx)) (by decide))
theorem C7d {l:List Act} (h:∀ a ∈ l,a.text.length≤300) {a:Act} (ha:a.text.length≤600) {k:Nat}:((([]:List Act)++l).set k a).all (fun x=>decide (x.text.length≤600))=true :=
 List.all_eq_true.2 fun x hx=>decide_eq_true (by
  rcases List.mem_or_eq_of_mem_set hx with hx | rfl
  ·exact Nat.le_trans (h x (by simpa using hx)) (by decide)
  ·exact ha)
def Y8 (y0:List Act) (pens:List Act) (bent:List Act):Bool :=
 (B8 (Q5 y0) fun (y1:List UInt8×Int)=>(B8 (A3i y0) fun (y2:List UInt8×Int)=>(bif ((!(decide (y1.1=y2.1)))||(!decide (y1.2=y2.2))) then false else (B8 (Q5 ((([]:List Act)++y0)++pens)) fun (y4:List UInt8×Int)=>(B8 (A3i ((([]:List Act)++y0)++pens)) fun (y6:List UInt8×Int)=>(bif ((!(decide (y4.1=y6.1)))||(!decide (y4.2=y6.2))) then false else (B8 (Q5 ((([]:List Act)++pens)++y0)) fun (y5:List UInt8×Int)=>(B8 (A3i ((([]:List Act)++pens)++y0)) fun (y8:List UInt8×Int)=>(bif ((!(decide (y5.1=y8.1)))||(!decide (y5.2=y8.2))) then false else (B8 (Q5 bent) fun (y3:List UInt8×Int)=>(B8 (A3i bent) fun (y7:List UInt8×Int)=>(bif ((!(decide (y3.1=y7.1)))||(!decide (y3.2=y7.2))) then false else A7v))))))))))))
def R6 (many:UInt8) (a:Act) (at_:UInt8) (y0:List Act):Nat→List Act→Nat→Bool
 | 0,_,_=>false
 | fu1+1,pens,i=>(bif ((decide ((i:Int)<((many.toNat:Int) % 40)))&&(decide ((0:Int)<(y0.length:Int)))) then (bif (!decide ((y0.getD ((Int.tmod (i:Int) (y0.length:Int)).toNat) Act.zero).kind=39)) then R6 many a at_ y0 fu1 (pens++([{Act.zero with kind:=39,n:=3,m:=((i:Int) % 6)}]:List Act)) (i+1) else R6 many a at_ y0 fu1 (pens++([(y0.getD ((Int.tmod (i:Int) (y0.length:Int)).toNat) Act.zero)]:List Act)) (i+1)) else (bif (decide ((0:Int)<((([]:List Act)++y0).length:Int))) then Y8 y0 pens ((([]:List Act)++y0).set ((Int.tmod (at_.toNat:Int) ((([]:List Act)++y0).length:Int)).toNat) ({a with text:=(a.text.take ((if (600:Int)<(a.text.length:Int) then (600:Int) else (a.text.length:Int)).toNat))})) else Y8 y0 pens (([]:List Act)++y0)))
def B0b (l:List Drf) (many:UInt8) (a:Act) (at_:UInt8):Bool :=
 (B8 (A9n l) fun (y0:List Act)=>R6 many a at_ y0 ((40 - 0)+1) ([]:List Act) 0)
theorem B9j (l:List Drf) (many:UInt8) (a:Act) (at_:UInt8) (lq:Option Addr) (lk:Nat) (hll:l.length≤9223372036854775807) (hcl:l.length≤lk) (hdl:∀ d ∈ l,B3h d) (hm:many.toNat<256) (R:Bool) (hR:B0b l many a at_=R):I5 Tryz.prog 3 [.slice lq l.length lk,.int .u8 (many.toNat:Int),ag (A0 a),.int .u8 (at_.toNat:Int)] [sl M5 lq l,B5e,B5q,P8,P2,L9,S7] (bv R):=by
 refine zco Tryz.func3 [(0,.slice lq l.length lk),(1,.int .u8 (many.toNat:Int)),(2,ag (A0 a)),(3,.int .u8 (at_.toNat:Int))] fun X hX hr hD=>?_
 replace hR:=(B0b.eq_1 ..).symm.trans hR
 refine sr 2 rfl (O5 2 0 [] (fun b1=>[(6,pt b1 0)]) (fun b1=>[bx b1 (A0 a) 26]) (fun b1=>(ie (sr 9 rfl (zrl 6 3 [0,0] [(21,sv a.text),(25,iv (if (600:Int)<(a.text.length:Int) then (600:Int) else (a.text.length:Int)))] ?_)))))
 have:=C8p (a.text.length:Int) (600:Int)
 refine ix rfl (A5y (T:=9) Tryz.underlying9 rfl rfl rfl ((if (600:Int)<(a.text.length:Int) then (600:Int) else (a.text.length:Int)).toNat) (by omega) (by omega)) (zrg 2 0 [0] [] [bx b1 (A0 ({a with text:=(a.text.take ((if (600:Int)<(a.text.length:Int) then (600:Int) else (a.text.length:Int)).toNat))})) 26] (ie (sr 3 rfl (ip' 1 2 [(28,.slice lq l.length lk)] ?_))))
 have hQ:=C2 hR;clear hR;obtain ⟨y0,hy0,hR⟩:=hQ
 refine it rfl (A2a (L2:=[bx b1 (A0 ({a with text:=(a.text.take ((if (600:Int)<(a.text.length:Int) then (600:Int) else (a.text.length:Int)).toNat))})) 26]) (D1t l lq lk (by first|omega|(simp<;>omega)|(dsimp only;omega)|decide) (by first|omega|(simp<;>omega)|(dsimp only;omega)|decide) (by first|assumption|omega) y0 hy0) rfl rfl rfl rfl rfl (A1.pick [0] rfl) (List.Perm.refl _) (fun ⟨r2,hk3⟩=>(bx b1 (A0 ({a with text:=(a.text.take ((if (600:Int)<(a.text.length:Int) then (600:Int) else (a.text.length:Int)).toNat))})) 26::(vo A0 26 r2 y0)++([]))) (fun ⟨r2,hk3⟩=>P4 [vo A0 26 r2 y0,[bx b1 (A0 ({a with text:=(a.text.take ((if (600:Int)<(a.text.length:Int) then (600:Int) else (a.text.length:Int)).toNat))})) 26]] [1,0] 2 rfl (by decide) (by first|rfl|simp) [[bx b1 (A0 ({a with text:=(a.text.take ((if (600:Int)<(a.text.length:Int) then (600:Int) else (a.text.length:Int)).toNat))})) 26],vo A0 26 r2 y0] rfl (by first|rfl|simp))) fun ⟨r2,hk3⟩=>?_
 have:=VOk.le hk3
 have:=VOk.cap hk3
 have hrow:=C3s l;rw [hy0] at hrow
 have hrlen:=C5t l;rw [hy0] at hrlen
 refine Y5 [bx b1 (A0 ({a with text:=(a.text.take ((if (600:Int)<(a.text.length:Int) then (600:Int) else (a.text.length:Int)).toNat))})) 26] [] (T:=26) (c:=A0) (r:=r2) (xs:=y0) hk3 (by first|rfl|simp) ?_
 refine ip' 1 0 [(9,.slice (va r2.q) y0.length r2.k)] (ie (sr 1 rfl (ip' 1 0 [(10,.slice none 0 0)] (ie (A7 (sr 1 rfl (ip' 1 0 [(11,iv 0)] (ie (B1 (A4k (P4 [vo A0 26 VR.nil ([]:List Act),[bx b1 (A0 ({a with text:=(a.text.take ((if (600:Int)<(a.text.length:Int) then (600:Int) else (a.text.length:Int)).toNat))})) 26]] [1,0] 2 rfl (by decide) rfl [[bx b1 (A0 ({a with text:=(a.text.take ((if (600:Int)<(a.text.length:Int) then (600:Int) else (a.text.length:Int)).toNat))})) 26],vo A0 26 VR.nil ([]:List Act)] rfl (by first|rfl|simp)) ?_))))))))))
 refine B7z (fun (fu:Nat) (pens:List Act) (pensr:VR) (i:Nat)=>((40 - i)<fu∧R6 many a at_ y0 fu pens i=R∧VOk 6 pens.length pensr∧pens.length=i∧i≤40∧(∀ a ∈ pens,a.text.length≤300),[(1,.int .u8 (many.toNat:Int)),(3,.int .u8 (at_.toNat:Int)),(6,pt b1 0),(9,.slice (va r2.q) y0.length r2.k),(10,.slice (va pensr.q) pens.length pensr.k),(11,iv (i:Int))],(bx b1 (A0 ({a with text:=(a.text.take ((if (600:Int)<(a.text.length:Int) then (600:Int) else (a.text.length:Int)).toNat))})) 26::(vo A0 26 pensr pens)++([])),[sl A0 (va r2.q) y0,sl M5 lq l,B5e,B5q,P8,P2,L9,S7],fu)) ((40 - 0)+1) ([]:List Act) VR.nil 0 ⟨(Nat.lt_succ_self _),hR,VOk.nil,(by rfl),(by omega),(by (intro x hx;cases hx))⟩ (mc [[bx b1 (A0 ({a with text:=(a.text.take ((if (600:Int)<(a.text.length:Int) then (600:Int) else (a.text.length:Int)).toNat))})) 26],vo A0 26 VR.nil ([]:List Act)] [true,true] rfl (by first|rfl|(simp only [List.length_set]<;>rfl))) A1.refl ?_
 rintro fu pens pensr i ⟨hm4,hR,hokpensr,hp,hi40,hpt⟩
 have:=VOk.le hokpensr
 obtain ⟨fu1,rfl⟩:∃ m,fu=m+1:=⟨fu - 1,by omega⟩
 replace hR:=(R6.eq_2 ..).symm.trans hR
 have htm:0<(y0.length:Int)→0≤Int.tmod (i:Int) (y0.length:Int)∧Int.tmod (i:Int) (y0.length:Int)<(y0.length:Int):=fun h=>⟨Int.tmod_nonneg _ (by omega),Int.tmod_lt_of_pos _ h⟩
 refine A7 (sr 10 rfl (ip' 2 8 [(30,iv (i:Int)),(31,.int .u8 (many.toNat:Int))] ?_))
 refine ix rfl (V6 (c:=((many.toNat:Int) % 40)) rfl rfl rfl (by decide) (by omega)) (ix rfl (N8 (c:=((many.toNat:Int) % 40)) Tryz.underlying3 (by kernel_rfl) rfl rfl (O8 (by first|(simp [IntKind.min,IntKind.signed,IntKind.bits];omega)|(simp [IntKind.max,IntKind.signed,IntKind.bits];omega)) (by first|(simp [IntKind.min,IntKind.signed,IntKind.bits];omega)|(simp [IntKind.max,IntKind.signed,IntKind.bits];omega)))) (ip' 2 4 [(35,bv (decide ((i:Int)<((many.toNat:Int) % 40))))] ?_))
 refine zid 4 0 35 39 (decide ((0:Int)<(y0.length:Int))) (fun g5 g5p=>?_) ?_
 ·refine ip' 4 0 [(39,bv (decide ((0:Int)<(y0.length:Int))))] ?_
  exact A3 (K5 2 35 39 g5 A1.refl (mc [[bx b1 (A0 ({a with text:=(a.text.take ((if (600:Int)<(a.text.length:Int) then (600:Int) else (a.text.length:Int)).toNat))})) 26],vo A0 26 pensr pens] [true,true] rfl (by first|rfl|(simp only [List.length_set]<;>rfl))) rfl rfl rfl rfl rfl)
 refine ie ?_
 refine zja rfl hR ?_ ?_<;>clear hR<;>intro hR h6 h6p
 ·refine A4 (nx (A7 (B1 (sr 9 rfl (ip' 4 5 [(42,.slice (va r2.q) y0.length r2.k),(43,iv (i:Int)),(45,iv (y0.length:Int))] (ix rfl (A7n rfl rfl rfl (by first|omega|exact C2a (by decide) (by first|omega|(simp<;>omega))|omega) rfl) (K9 0 rfl (by omega) fun a7 hq8=>(ix rfl (G3 A0d rfl rfl hq8 rfl ((Int.tmod (i:Int) (y0.length:Int)).toNat) (by omega) (by omega)) (ix rfl (Q3 (us:=A0 (y0.getD ((Int.tmod (i:Int) (y0.length:Int)).toNat) Act.zero)) A3a rfl rfl (I4 (c:=A0) (sz:=6) hq8 (fun _=>rfl) 0 rfl (gd Act.zero (by omega))) rfl) ?_)))))))))
  refine O5 2 0 [0] (fun b9=>[(12,pt b9 0)]) (fun b9=>(bx b9 (A0 (y0.getD ((Int.tmod (i:Int) (y0.length:Int)).toNat) Act.zero)) 26::bx b1 (A0 ({a with text:=(a.text.take ((if (600:Int)<(a.text.length:Int) then (600:Int) else (a.text.length:Int)).toNat))})) 26::(vo A0 26 pensr pens)++([]))) (fun b9=>?_)
  refine ie (A7 (sr 3 rfl (zrl 3 0 [0] [(51,bv (!decide ((y0.getD ((Int.tmod (i:Int) (y0.length:Int)).toNat) Act.zero).kind=39)))] (ie ?_))))
  refine zjn rfl hR ?_ ?_<;>clear hR<;>intro hR h10 h10p
  ·refine A2 4 rfl (ip' 1 3 [(52,iv (i:Int))] (ix rfl (V6 (c:=((i:Int) % 6)) rfl rfl rfl (by decide) (by exact ⟨by omega,rfl⟩)) (zrg 2 0 [0] [] (bx b9 (A0 ({Act.zero with kind:=39,n:=3,m:=((i:Int) % 6)})) 26::bx b1 (A0 ({a with text:=(a.text.take ((if (600:Int)<(a.text.length:Int) then (600:Int) else (a.text.length:Int)).toNat))})) 26::(vo A0 26 pensr pens)++([])) (A3 (nx (A2 5 rfl (zrl 2 3 [0] [(55,.slice (va pensr.q) pens.length pensr.k),(56,ag (A0 ({Act.zero with kind:=39,n:=3,m:=((i:Int) % 6)})))] (it rfl (B4 (c:=A0) (xs:=([{Act.zero with kind:=39,n:=3,m:=((i:Int) % 6)}]:List Act)) A0d rfl rfl rfl (by kernel_rfl)) fun b11=>?_))))))))
   have:([{Act.zero with kind:=39,n:=3,m:=((i:Int) % 6)}]:List Act).length=1:=rfl
   refine it rfl (A5c (f:=A0) (r:=pensr) (xs:=pens) (ys:=([{Act.zero with kind:=39,n:=3,m:=((i:Int) % 6)}]:List Act)) (pre:=[bx b9 (A0 ({Act.zero with kind:=39,n:=3,m:=((i:Int) % 6)})) 26,bx b1 (A0 ({a with text:=(a.text.take ((if (600:Int)<(a.text.length:Int) then (600:Int) else (a.text.length:Int)).toNat))})) 26]) (post:=[]) C0p (fun _=>rfl) (fun _=>rfl) rfl rfl rfl rfl rfl rfl rfl rfl rfl (A9 0 rfl) hokpensr (by first|omega|(simp<;>omega)) (by first|omega|(simp<;>omega))) fun ⟨r12,hr13⟩=>?_
   have:=VOk.le hr13
   have:=VOk.cap hr13
   refine ip' 1 0 [(10,.slice (va r12.q) ((pens++([{Act.zero with kind:=39,n:=3,m:=((i:Int) % 6)}]:List Act)).length) r12.k)] (A3 (nx (A2 3 rfl (ip' 1 2 [(40,iv (i:Int))] (ix rfl (B5 rfl rfl rfl rfl (by omega)) (ip' 1 0 [(11,iv ((i:Int)+1))] (A3 ?_)))))))
   exact B4p (z1:=(fu1+1)) (z2:=pens) (z3:=pensr) (z4:=i) fu1 (pens++([{Act.zero with kind:=39,n:=3,m:=((i:Int) % 6)}]:List Act)) r12 (i+1) ⟨(by omega),hR,hr13,(by (simp<;>omega)),(by omega),(by (intro x hx;rcases List.mem_append.1 hx with hx|hx;exact hpt x hx;rw [List.mem_singleton.1 hx];first|exact Nat.zero_le _|exact B3k hrow (by decide) _))⟩ (Nat.lt_succ_self _) (mc [[bx b9 (A0 ({Act.zero with kind:=39,n:=3,m:=((i:Int) % 6)})) 26],[bx b1 (A0 ({a with text:=(a.text.take ((if (600:Int)<(a.text.length:Int) then (600:Int) else (a.text.length:Int)).toNat))})) 26],vo A0 26 r12 (pens++([{Act.zero with kind:=39,n:=3,m:=((i:Int) % 6)}]:List Act))] [false,true,true] rfl (by first|rfl|(simp only [List.length_set]<;>rfl))) (A1.pick [1,2,3,4,5,6,7,8] rfl)
  refine A4 (nx (A2 5 rfl (zrl 2 3 [0] [(55,.slice (va pensr.q) pens.length pensr.k),(56,ag (A0 (y0.getD ((Int.tmod (i:Int) (y0.length:Int)).toNat) Act.zero)))] (it rfl (B4 (c:=A0) (xs:=([(y0.getD ((Int.tmod (i:Int) (y0.length:Int)).toNat) Act.zero)]:List Act)) A0d rfl rfl rfl (by kernel_rfl)) fun b14=>?_))))
  have:([(y0.getD ((Int.tmod (i:Int) (y0.length:Int)).toNat) Act.zero)]:List Act).length=1:=rfl
  refine it rfl (A5c (f:=A0) (r:=pensr) (xs:=pens) (ys:=([(y0.getD ((Int.tmod (i:Int) (y0.length:Int)).toNat) Act.zero)]:List Act)) (pre:=[bx b9 (A0 (y0.getD ((Int.tmod (i:Int) (y0.length:Int)).toNat) Act.zero)) 26,bx b1 (A0 ({a with text:=(a.text.take ((if (600:Int)<(a.text.length:Int) then (600:Int) else (a.text.length:Int)).toNat))})) 26]) (post:=[]) C0p (fun _=>rfl) (fun _=>rfl) rfl rfl rfl rfl rfl rfl rfl rfl rfl (A9 0 rfl) hokpensr (by first|omega|(simp<;>omega)) (by first|omega|(simp<;>omega))) fun ⟨r15,hr16⟩=>?_
  have:=VOk.le hr16
  have:=VOk.cap hr16
  refine ip' 1 0 [(10,.slice (va r15.q) ((pens++([(y0.getD ((Int.tmod (i:Int) (y0.length:Int)).toNat) Act.zero)]:List Act)).length) r15.k)] (A3 (nx (A2 3 rfl (ip' 1 2 [(40,iv (i:Int))] (ix rfl (B5 rfl rfl rfl rfl (by omega)) (ip' 1 0 [(11,iv ((i:Int)+1))] (A3 ?_)))))))
  exact B4p (z1:=(fu1+1)) (z2:=pens) (z3:=pensr) (z4:=i) fu1 (pens++([(y0.getD ((Int.tmod (i:Int) (y0.length:Int)).toNat) Act.zero)]:List Act)) r15 (i+1) ⟨(by omega),hR,hr16,(by (simp<;>omega)),(by omega),(by (intro x hx;rcases List.mem_append.1 hx with hx|hx;exact hpt x hx;rw [List.mem_singleton.1 hx];first|exact Nat.zero_le _|exact B3k hrow (by decide) _))⟩ (Nat.lt_succ_self _) (mc [[bx b9 (A0 (y0.getD ((Int.tmod (i:Int) (y0.length:Int)).toNat) Act.zero)) 26],[bx b1 (A0 ({a with text:=(a.text.take ((if (600:Int)<(a.text.length:Int) then (600:Int) else (a.text.length:Int)).toNat))})) 26],vo A0 26 r15 (pens++([(y0.getD ((Int.tmod (i:Int) (y0.length:Int)).toNat) Act.zero)]:List Act))] [false,true,true] rfl (by first|rfl|(simp only [List.length_set]<;>rfl))) (A1.pick [1,2,3,4,5,6,7,8] rfl)
 refine G6 (nx (sr 4 rfl (it rfl (A6i A0d rfl rfl) fun b17=>?_)))
 have:([]:List Act).length=0:=rfl
 refine C8n (P4 [vo A0 26 (⟨some b17,0,[]⟩:VR) ([]:List Act),[bx b1 (A0 ({a with text:=(a.text.take ((if (600:Int)<(a.text.length:Int) then (600:Int) else (a.text.length:Int)).toNat))})) 26],vo A0 26 pensr pens] [1,0,2] 3 rfl (by decide) rfl [[bx b1 (A0 ({a with text:=(a.text.take ((if (600:Int)<(a.text.length:Int) then (600:Int) else (a.text.length:Int)).toNat))})) 26],vo A0 26 (⟨some b17,0,[]⟩:VR) ([]:List Act),vo A0 26 pensr pens] rfl (by first|rfl|simp)) ?_
 refine ip' 1 2 [(60,.slice (va r2.q) y0.length r2.k)] (it rfl (A5e (f:=A0) (r:=(⟨some b17,0,[]⟩:VR)) (xs:=([]:List Act)) (ys:=y0) (pre:=[bx b1 (A0 ({a with text:=(a.text.take ((if (600:Int)<(a.text.length:Int) then (600:Int) else (a.text.length:Int)).toNat))})) 26]) (post:=((vo A0 26 pensr pens)++([]))) C0p (fun _=>rfl) (fun _=>rfl) rfl rfl rfl rfl rfl rfl rfl rfl (A9 0 rfl) (show VOk 6 0 _ from ⟨rfl,Nat.zero_le _,Nat.zero_le _⟩) (by first|omega|(simp<;>omega)) (by first|omega|(simp<;>omega))) fun ⟨r18,hr19⟩=>?_)
 have:=VOk.le hr19
 have:=VOk.cap hr19
 refine ip' 1 0 [(13,.slice (va r18.q) ((([]:List Act)++y0).length) r18.k)] ?_
 refine ie (E6u (fun (bent:List Act) (bentr:VR)=>(Y8 y0 pens bent=R∧VOk 6 bent.length bentr∧bent.all (fun x=>decide (x.text.length≤600))=true,[(9,.slice (va r2.q) y0.length r2.k),(10,.slice (va pensr.q) pens.length pensr.k),(13,.slice (va bentr.q) bent.length bentr.k)],(bx b1 (A0 ({a with text:=(a.text.take ((if (600:Int)<(a.text.length:Int) then (600:Int) else (a.text.length:Int)).toNat))})) 26::(vo A0 26 pensr pens)++((vo A0 26 bentr bent)++([]))),[sl A0 (va r2.q) y0,sl M5 lq l,B5e,B5q,P8,P2,L9,S7])) ?_ ?_)
 ·refine sr 3 rfl (ip' 3 0 [(64,bv (decide ((0:Int)<((([]:List Act)++y0).length:Int))))] (ie ?_))
  refine zjd rfl hR ?_ ?_<;>clear hR<;>intro hR h20 h20p
  ·have htn:=E1f (m:=(at_.toNat:Int)) (Int.natCast_nonneg _) h20p
   refine sh' 9 [(9,[bx b1 (A0 ({a with text:=(a.text.take ((if (600:Int)<(a.text.length:Int) then (600:Int) else (a.text.length:Int)).toNat))})) 26]),(8,vo A0 26 r18 (([]:List Act)++y0)),(9,vo A0 26 pensr pens)] [sl A0 (va r2.q) y0,sl M5 lq l,B5e,B5q,P8,P2,L9,S7] (bx b1 (A0 ({a with text:=(a.text.take ((if (600:Int)<(a.text.length:Int) then (600:Int) else (a.text.length:Int)).toNat))})) 26::(vo A0 26 r18 (([]:List Act)++y0))++((vo A0 26 pensr pens)++([]))) (zml 9 0) (by kernel_rfl) rfl (by kernel_rfl) (by kernel_rfl) (by kernel_rfl) (mc [[bx b1 (A0 ({a with text:=(a.text.take ((if (600:Int)<(a.text.length:Int) then (600:Int) else (a.text.length:Int)).toNat))})) 26],vo A0 26 r18 (([]:List Act)++y0),vo A0 26 pensr pens] [true,true,true] rfl (by first|rfl|(simp only [List.length_set]<;>rfl))) A1.refl ?_
   refine zhp [0,1,3,4] 5 (zml 9 27) [(65,.slice (va r18.q) ((([]:List Act)++y0).length) r18.k),(66,.int .u8 (at_.toNat:Int)),(69,iv ((([]:List Act)++y0).length:Int))] ?_
   refine zhk 2 (zml 9 31) rfl (N8 (c:=(at_.toNat:Int)) Tryz.underlying3 (by kernel_rfl) rfl rfl (Y7 at_)) (zhk 5 (zml 9 63) rfl (A7n rfl rfl rfl (by first|omega|exact C2a (by decide) (by first|omega|(simp<;>omega))|omega) rfl) (zhl 6 (bx b1 (A0 ({a with text:=(a.text.take ((if (600:Int)<(a.text.length:Int) then (600:Int) else (a.text.length:Int)).toNat))})) 26::(vo A0 26 r18 (([]:List Act)++y0))++((vo A0 26 pensr pens)++([]))) (zml 9 127) rfl (J7 (us:=A0 ({a with text:=(a.text.take ((if (600:Int)<(a.text.length:Int) then (600:Int) else (a.text.length:Int)).toNat))})) A3a rfl rfl 0 rfl rfl rfl) ?_))
   obtain ⟨b21,hb22⟩:=VOk.some hr19 (by omega)
   obtain ⟨q23,k24,j25⟩:=r18
   obtain rfl:q23=some b21:=hb22
   refine zhl 7 (bx b1 (A0 ({a with text:=(a.text.take ((if (600:Int)<(a.text.length:Int) then (600:Int) else (a.text.length:Int)).toNat))})) 26::(vo A0 26 (⟨some b21,k24,j25⟩:VR) (([]:List Act)++y0))++((vo A0 26 pensr pens)++([]))) (zml 9 255) rfl (A7f A0d rfl rfl rfl ((Int.tmod (at_.toNat:Int) ((([]:List Act)++y0).length:Int)).toNat) (by omega) (by omega)) ?_
   refine zho 8 (bx b1 (A0 ({a with text:=(a.text.take ((if (600:Int)<(a.text.length:Int) then (600:Int) else (a.text.length:Int)).toNat))})) 26::(vo A0 26 pensr pens)++([])) (zml 9 511) rfl (B2c (us:=A0 ({a with text:=(a.text.take ((if (600:Int)<(a.text.length:Int) then (600:Int) else (a.text.length:Int)).toNat))})) (u':={a with text:=(a.text.take ((if (600:Int)<(a.text.length:Int) then (600:Int) else (a.text.length:Int)).toNat))}) (c:=A0) (sz:=6) A3a (fun _=>rfl) rfl rfl rfl 1 rfl rfl rfl rfl ((Int.tmod (at_.toNat:Int) ((([]:List Act)++y0).length:Int)).toNat) 0 rfl (gd Act.zero (by omega)) rfl rfl) (fun _=>(mc [[bx b1 (A0 ({a with text:=(a.text.take ((if (600:Int)<(a.text.length:Int) then (600:Int) else (a.text.length:Int)).toNat))})) 26],vo A0 26 (⟨some b21,k24,j25⟩:VR) ((([]:List Act)++y0).set ((Int.tmod (at_.toNat:Int) ((([]:List Act)++y0).length:Int)).toNat) ({a with text:=(a.text.take ((if (600:Int)<(a.text.length:Int) then (600:Int) else (a.text.length:Int)).toNat))})),vo A0 26 pensr pens] [true,false,true] rfl (by first|rfl|(simp only [List.length_set]<;>rfl)))) (fun _=>A1.refl) fun _=>?_
   refine B6h (by kernel_rfl) ?_
   refine A4k (P4 [[bx b1 (A0 ({a with text:=(a.text.take ((if (600:Int)<(a.text.length:Int) then (600:Int) else (a.text.length:Int)).toNat))})) 26],vo A0 26 (⟨some b21,k24,j25⟩:VR) ((([]:List Act)++y0).set ((Int.tmod (at_.toNat:Int) ((([]:List Act)++y0).length:Int)).toNat) ({a with text:=(a.text.take ((if (600:Int)<(a.text.length:Int) then (600:Int) else (a.text.length:Int)).toNat))})),vo A0 26 pensr pens] [0,2,1] 3 rfl (by decide) rfl [[bx b1 (A0 ({a with text:=(a.text.take ((if (600:Int)<(a.text.length:Int) then (600:Int) else (a.text.length:Int)).toNat))})) 26],vo A0 26 pensr pens,vo A0 26 (⟨some b21,k24,j25⟩:VR) ((([]:List Act)++y0).set ((Int.tmod (at_.toNat:Int) ((([]:List Act)++y0).length:Int)).toNat) ({a with text:=(a.text.take ((if (600:Int)<(a.text.length:Int) then (600:Int) else (a.text.length:Int)).toNat))}))] rfl (by first|rfl|simp)) ?_
   exact E5a ((([]:List Act)++y0).set ((Int.tmod (at_.toNat:Int) ((([]:List Act)++y0).length:Int)).toNat) ({a with text:=(a.text.take ((if (600:Int)<(a.text.length:Int) then (600:Int) else (a.text.length:Int)).toNat))})) (⟨some b21,k24,j25⟩:VR) ⟨hR,(VOk.cast hr19 (by simp)),(by first|exact C7d hrow (by dsimp only;rw [List.length_take];omega)|exact C0y hrow)⟩ (mc [[bx b1 (A0 ({a with text:=(a.text.take ((if (600:Int)<(a.text.length:Int) then (600:Int) else (a.text.length:Int)).toNat))})) 26],vo A0 26 pensr pens,vo A0 26 (⟨some b21,k24,j25⟩:VR) ((([]:List Act)++y0).set ((Int.tmod (at_.toNat:Int) ((([]:List Act)++y0).length:Int)).toNat) ({a with text:=(a.text.take ((if (600:Int)<(a.text.length:Int) then (600:Int) else (a.text.length:Int)).toNat))}))] [true,true,true] rfl (by first|rfl|(simp only [List.length_set]<;>rfl))) A1.refl
  refine A4 (A4k (P4 [[bx b1 (A0 ({a with text:=(a.text.take ((if (600:Int)<(a.text.length:Int) then (600:Int) else (a.text.length:Int)).toNat))})) 26],vo A0 26 r18 (([]:List Act)++y0),vo A0 26 pensr pens] [0,2,1] 3 rfl (by decide) rfl [[bx b1 (A0 ({a with text:=(a.text.take ((if (600:Int)<(a.text.length:Int) then (600:Int) else (a.text.length:Int)).toNat))})) 26],vo A0 26 pensr pens,vo A0 26 r18 (([]:List Act)++y0)] rfl (by first|rfl|simp)) ?_)
  exact E5a (([]:List Act)++y0) r18 ⟨hR,hr19,(by first|exact C7d hrow (by dsimp only;rw [List.length_take];omega)|exact C0y hrow)⟩ (mc [[bx b1 (A0 ({a with text:=(a.text.take ((if (600:Int)<(a.text.length:Int) then (600:Int) else (a.text.length:Int)).toNat))})) 26],vo A0 26 pensr pens,vo A0 26 r18 (([]:List Act)++y0)] [true,true,true] rfl (by first|rfl|(simp only [List.length_set]<;>rfl))) A1.refl
 intro bent bentr
 rintro ⟨hR,hokbentr,hbt⟩
 replace hR:=(Y8.eq_1 ..).symm.trans hR
 refine A7 (sr 14 rfl (ip' 1 13 [(73,.slice (va r2.q) y0.length r2.k)] ?_))
 refine it rfl (A6i A0d rfl rfl) fun b26=>?_
 have:([]:List Act).length=0:=rfl
 refine C8n (P4 [vo A0 26 (⟨some b26,0,[]⟩:VR) ([]:List Act),[bx b1 (A0 ({a with text:=(a.text.take ((if (600:Int)<(a.text.length:Int) then (600:Int) else (a.text.length:Int)).toNat))})) 26],vo A0 26 pensr pens,vo A0 26 bentr bent] [1,0,2,3] 4 rfl (by decide) rfl [[bx b1 (A0 ({a with text:=(a.text.take ((if (600:Int)<(a.text.length:Int) then (600:Int) else (a.text.length:Int)).toNat))})) 26],vo A0 26 (⟨some b26,0,[]⟩:VR) ([]:List Act),vo A0 26 pensr pens,vo A0 26 bentr bent] rfl (by first|rfl|simp)) ?_
 refine ip' 1 11 [(75,.slice (va r2.q) y0.length r2.k)] (it rfl (A5e (f:=A0) (r:=(⟨some b26,0,[]⟩:VR)) (xs:=([]:List Act)) (ys:=y0) (pre:=[bx b1 (A0 ({a with text:=(a.text.take ((if (600:Int)<(a.text.length:Int) then (600:Int) else (a.text.length:Int)).toNat))})) 26]) (post:=((vo A0 26 pensr pens)++((vo A0 26 bentr bent)++([])))) C0p (fun _=>rfl) (fun _=>rfl) rfl rfl rfl rfl rfl rfl rfl rfl (A9 0 rfl) (show VOk 6 0 _ from ⟨rfl,Nat.zero_le _,Nat.zero_le _⟩) (by first|omega|(simp<;>omega)) (by first|omega|(simp<;>omega))) fun ⟨r27,hr28⟩=>?_)
 have:=VOk.le hr28
 have:=VOk.cap hr28
 refine ip' 1 9 [(77,.slice (va pensr.q) pens.length pensr.k)] ?_
 refine Y5 (bx b1 (A0 ({a with text:=(a.text.take ((if (600:Int)<(a.text.length:Int) then (600:Int) else (a.text.length:Int)).toNat))})) 26::(vo A0 26 r27 (([]:List Act)++y0))++([])) ((vo A0 26 bentr bent)++([])) (T:=26) (c:=A0) (r:=pensr) (xs:=pens) hokpensr (by first|rfl|simp) ?_
 refine D9f (L':=(bx b1 (A0 ({a with text:=(a.text.take ((if (600:Int)<(a.text.length:Int) then (600:Int) else (a.text.length:Int)).toNat))})) 26::(vo A0 26 r27 (([]:List Act)++y0))++((vo A0 26 bentr bent)++([])))) (by first|rfl|simp) ?_
 refine it rfl (A5e (f:=A0) (r:=r27) (xs:=(([]:List Act)++y0)) (ys:=pens) (pre:=[bx b1 (A0 ({a with text:=(a.text.take ((if (600:Int)<(a.text.length:Int) then (600:Int) else (a.text.length:Int)).toNat))})) 26]) (post:=((vo A0 26 bentr bent)++([]))) C0p (fun _=>rfl) (fun _=>rfl) rfl rfl rfl rfl rfl rfl rfl rfl (A9 0 rfl) hr28 (by first|omega|(simp<;>omega)) (by first|omega|(simp<;>omega))) fun ⟨r29,hr30⟩=>?_
 have:=VOk.le hr30
 have:=VOk.cap hr30
 refine it rfl (A6i A0d rfl rfl) fun b31=>?_
 have:([]:List Act).length=0:=rfl
 refine C8n (P4 [vo A0 26 (⟨some b31,0,[]⟩:VR) ([]:List Act),[bx b1 (A0 ({a with text:=(a.text.take ((if (600:Int)<(a.text.length:Int) then (600:Int) else (a.text.length:Int)).toNat))})) 26],vo A0 26 r29 ((([]:List Act)++y0)++pens),vo A0 26 bentr bent] [1,0,2,3] 4 rfl (by decide) rfl [[bx b1 (A0 ({a with text:=(a.text.take ((if (600:Int)<(a.text.length:Int) then (600:Int) else (a.text.length:Int)).toNat))})) 26],vo A0 26 (⟨some b31,0,[]⟩:VR) ([]:List Act),vo A0 26 r29 ((([]:List Act)++y0)++pens),vo A0 26 bentr bent] rfl (by first|rfl|simp)) ?_
 refine ip' 1 6 [(80,.slice (va pensr.q) pens.length pensr.k)] (it rfl (A5e (f:=A0) (r:=(⟨some b31,0,[]⟩:VR)) (xs:=([]:List Act)) (ys:=pens) (pre:=[bx b1 (A0 ({a with text:=(a.text.take ((if (600:Int)<(a.text.length:Int) then (600:Int) else (a.text.length:Int)).toNat))})) 26]) (post:=((vo A0 26 r29 ((([]:List Act)++y0)++pens))++((vo A0 26 bentr bent)++([])))) C0p (fun _=>rfl) (fun _=>rfl) rfl rfl rfl rfl rfl rfl rfl rfl (A9 0 rfl) (show VOk 6 0 _ from ⟨rfl,Nat.zero_le _,Nat.zero_le _⟩) (by first|omega|(simp<;>omega)) (by first|omega|(simp<;>omega))) fun ⟨r32,hr33⟩=>?_)
 have:=VOk.le hr33
 have:=VOk.cap hr33
 refine ip' 1 4 [(82,.slice (va r2.q) y0.length r2.k)] (it rfl (A5e (f:=A0) (r:=r32) (xs:=(([]:List Act)++pens)) (ys:=y0) (pre:=[bx b1 (A0 ({a with text:=(a.text.take ((if (600:Int)<(a.text.length:Int) then (600:Int) else (a.text.length:Int)).toNat))})) 26]) (post:=((vo A0 26 r29 ((([]:List Act)++y0)++pens))++((vo A0 26 bentr bent)++([])))) C0p (fun _=>rfl) (fun _=>rfl) rfl rfl rfl rfl rfl rfl rfl rfl (A9 1 rfl) hr33 (by first|omega|(simp<;>omega)) (by first|omega|(simp<;>omega))) fun ⟨r34,hr35⟩=>?_)
 have:=VOk.le hr35
 have:=VOk.cap hr35
 refine zrl 3 0 [] [(85,ag [.slice (va r2.q) y0.length r2.k,.slice (va r29.q) (((([]:List Act)++y0)++pens).length) r29.k,.slice (va r34.q) (((([]:List Act)++pens)++y0).length) r34.k,.slice (va bentr.q) bent.length bentr.k]),(86,iv 0)] (ie (B1 (A5f 6 ?_)))
 refine G0 (sr 1 rfl (ip' 1 0 [(87,bv true)] ?_))
 refine ie (A7 (N1 rfl (A4 (nx (A7 (B1 (sr 2 rfl (ix rfl (F9 (v:=.slice (va r2.q) y0.length r2.k) (us:=[.slice (va r2.q) y0.length r2.k]) Tryz.underlying29 E0p rfl rfl rfl 0 rfl (by decide) rfl rfl rfl) (ip' 1 0 [(15,.slice (va r2.q) y0.length r2.k)] (ie (sr 7 rfl (ip' 1 6 [(90,.slice (va r2.q) y0.length r2.k)] ?_))))))))))))
 have hQ:=C2 hR;clear hR;obtain ⟨y1,hy1,hR⟩:=hQ
 refine it rfl (A2a (L2:=(bx b1 (A0 ({a with text:=(a.text.take ((if (600:Int)<(a.text.length:Int) then (600:Int) else (a.text.length:Int)).toNat))})) 26::(vo A0 26 r34 ((([]:List Act)++pens)++y0))++((vo A0 26 r29 ((([]:List Act)++y0)++pens))++((vo A0 26 bentr bent)++([]))))) (A6r y0 (va r2.q) r2.k (by first|omega|(simp<;>omega)|(dsimp only;omega)|decide) (by first|omega|(simp<;>omega)|(dsimp only;omega)|decide) (by first|assumption|decide|exact fun x hx=>Nat.le_trans (hrow x hx) (by decide)|exact fun x hx=>Nat.le_trans (of_decide_eq_true (List.all_eq_true.1 hbt x hx)) (by decide)|(intro x hx;simp only [List.nil_append,List.mem_append] at hx;rcases hx with hx|hx<;>first|exact Nat.le_trans (hrow x hx) (by decide)|exact Nat.le_trans (hpt x hx) (by decide))|(intro x hx;rw [List.mem_singleton.1 hx];omega)|exact fun x hx=>Nat.le_trans (hrow x (List.mem_of_mem_take hx)) (by decide)|exact fun x hx=>Nat.le_trans (hrow x (List.mem_of_mem_drop hx)) (by decide)|exact fun x hx=>Nat.le_trans (hrow x (List.mem_of_mem_drop (List.mem_of_mem_take hx))) (by decide)|omega) y1 hy1) rfl rfl rfl rfl rfl (A1.pick [1,3,4,5,6,7,8] rfl) (List.Perm.refl _) (fun ⟨r36,hk37⟩=>(bx b1 (A0 ({a with text:=(a.text.take ((if (600:Int)<(a.text.length:Int) then (600:Int) else (a.text.length:Int)).toNat))})) 26::(vo cU8 5 r36 y1.1)++((vo A0 26 r34 ((([]:List Act)++pens)++y0))++((vo A0 26 r29 ((([]:List Act)++y0)++pens))++((vo A0 26 bentr bent)++([])))))) (fun ⟨r36,hk37⟩=>P4 [vo cU8 5 r36 y1.1,[bx b1 (A0 ({a with text:=(a.text.take ((if (600:Int)<(a.text.length:Int) then (600:Int) else (a.text.length:Int)).toNat))})) 26],vo A0 26 r34 ((([]:List Act)++pens)++y0),vo A0 26 r29 ((([]:List Act)++y0)++pens),vo A0 26 bentr bent] [1,0,2,3,4] 5 rfl (by decide) (by first|rfl|simp) [[bx b1 (A0 ({a with text:=(a.text.take ((if (600:Int)<(a.text.length:Int) then (600:Int) else (a.text.length:Int)).toNat))})) 26],vo cU8 5 r36 y1.1,vo A0 26 r34 ((([]:List Act)++pens)++y0),vo A0 26 r29 ((([]:List Act)++y0)++pens),vo A0 26 bentr bent] rfl (by first|rfl|simp))) fun ⟨r36,hk37⟩=>?_
 have:=VOk.le hk37
 have:=VOk.cap hk37
 try have:=A4d y0 (fun x hx=>Nat.le_trans (hrow x (by first|exact hx|exact List.mem_of_mem_take hx|exact List.mem_of_mem_drop hx)) (by decide));try rw [hy1] at this
 refine Y5 [bx b1 (A0 ({a with text:=(a.text.take ((if (600:Int)<(a.text.length:Int) then (600:Int) else (a.text.length:Int)).toNat))})) 26] ((vo A0 26 r34 ((([]:List Act)++pens)++y0))++((vo A0 26 r29 ((([]:List Act)++y0)++pens))++((vo A0 26 bentr bent)++([])))) (T:=5) (c:=cU8) (r:=r36) (xs:=y1.1) hk37 (by first|rfl|simp) ?_
 refine ip' 5 0 [(16,.slice (va r36.q) y1.1.length r36.k),(17,iv y1.2)] (ie (sr 7 rfl (ip' 1 6 [(95,.slice (va r2.q) y0.length r2.k)] ?_)))
 have hQ:=C2 hR;clear hR;obtain ⟨y2,hy2,hR⟩:=hQ
 refine it rfl (A2a (L2:=(bx b1 (A0 ({a with text:=(a.text.take ((if (600:Int)<(a.text.length:Int) then (600:Int) else (a.text.length:Int)).toNat))})) 26::(vo A0 26 r34 ((([]:List Act)++pens)++y0))++((vo A0 26 r29 ((([]:List Act)++y0)++pens))++((vo A0 26 bentr bent)++([]))))) (B1a y0 (va r2.q) r2.k (by first|omega|(simp<;>omega)|(dsimp only;omega)|decide) (by first|omega|(simp<;>omega)|(dsimp only;omega)|decide) (by first|assumption|decide|exact fun x hx=>Nat.le_trans (hrow x hx) (by decide)|exact fun x hx=>Nat.le_trans (of_decide_eq_true (List.all_eq_true.1 hbt x hx)) (by decide)|(intro x hx;simp only [List.nil_append,List.mem_append] at hx;rcases hx with hx|hx<;>first|exact Nat.le_trans (hrow x hx) (by decide)|exact Nat.le_trans (hpt x hx) (by decide))|(intro x hx;rw [List.mem_singleton.1 hx];omega)|exact fun x hx=>Nat.le_trans (hrow x (List.mem_of_mem_take hx)) (by decide)|exact fun x hx=>Nat.le_trans (hrow x (List.mem_of_mem_drop hx)) (by decide)|exact fun x hx=>Nat.le_trans (hrow x (List.mem_of_mem_drop (List.mem_of_mem_take hx))) (by decide)|omega) y2 hy2) rfl rfl rfl rfl rfl (A1.pick [2] rfl) (List.Perm.refl _) (fun ⟨r38,hk39⟩=>(bx b1 (A0 ({a with text:=(a.text.take ((if (600:Int)<(a.text.length:Int) then (600:Int) else (a.text.length:Int)).toNat))})) 26::(vo cU8 5 r38 y2.1)++((vo A0 26 r34 ((([]:List Act)++pens)++y0))++((vo A0 26 r29 ((([]:List Act)++y0)++pens))++((vo A0 26 bentr bent)++([])))))) (fun ⟨r38,hk39⟩=>P4 [vo cU8 5 r38 y2.1,[bx b1 (A0 ({a with text:=(a.text.take ((if (600:Int)<(a.text.length:Int) then (600:Int) else (a.text.length:Int)).toNat))})) 26],vo A0 26 r34 ((([]:List Act)++pens)++y0),vo A0 26 r29 ((([]:List Act)++y0)++pens),vo A0 26 bentr bent] [1,0,2,3,4] 5 rfl (by decide) (by first|rfl|simp) [[bx b1 (A0 ({a with text:=(a.text.take ((if (600:Int)<(a.text.length:Int) then (600:Int) else (a.text.length:Int)).toNat))})) 26],vo cU8 5 r38 y2.1,vo A0 26 r34 ((([]:List Act)++pens)++y0),vo A0 26 r29 ((([]:List Act)++y0)++pens),vo A0 26 bentr bent] rfl (by first|rfl|simp))) fun ⟨r38,hk39⟩=>?_
 have:=VOk.le hk39
 have:=VOk.cap hk39
 refine Y5 [bx b1 (A0 ({a with text:=(a.text.take ((if (600:Int)<(a.text.length:Int) then (600:Int) else (a.text.length:Int)).toNat))})) 26] ((vo A0 26 r34 ((([]:List Act)++pens)++y0))++((vo A0 26 r29 ((([]:List Act)++y0)++pens))++((vo A0 26 bentr bent)++([])))) (T:=5) (c:=cU8) (r:=r38) (xs:=y2.1) hk39 (by first|rfl|simp) ?_
 refine ip' 5 0 [(18,.slice (va r38.q) y2.1.length r38.k),(19,iv y2.2)] (ie (sr 10 rfl (ip' 1 9 [(99,.slice (va r36.q) y1.1.length r36.k)] (ix rfl (A1s Tryz.underlying9 Tryz.underlying30 rfl rfl (A9 1 rfl) rfl (by kernel_rfl)) (ip' 1 7 [(101,.slice (va r38.q) y2.1.length r38.k)] (ix rfl (A1s Tryz.underlying9 Tryz.underlying30 rfl rfl (A9 0 rfl) rfl (by kernel_rfl)) (ix rfl (V0 rfl rfl rfl) (ip' 1 4 [(104,bv (!(decide (y1.1=y2.1))))] ?_))))))))
 refine zio 4 0 104 108 (!decide (y1.2=y2.2)) (fun g40=>?_) ?_
 ·have g40p:¬ (¬ y1.1=y2.1):=by simpa using g40
  refine ip' 4 0 [(108,bv (!decide (y1.2=y2.2)))] ?_
  exact A3 (K5 2 104 108 g40 A1.refl (mc [[bx b1 (A0 ({a with text:=(a.text.take ((if (600:Int)<(a.text.length:Int) then (600:Int) else (a.text.length:Int)).toNat))})) 26],vo A0 26 r34 ((([]:List Act)++pens)++y0),vo A0 26 r29 ((([]:List Act)++y0)++pens),vo A0 26 bentr bent] [true,true,true,true] rfl (by first|rfl|(simp only [List.length_set]<;>rfl))) rfl rfl rfl rfl rfl)
 refine ie ?_
 refine zjb rfl hR ?_ ?_<;>clear hR<;>intro hR h41
 ·have h41p:(¬ y1.1=y2.1)∨(¬ y1.2=y2.2):=by simpa using h41
  refine sr 1 rfl (ip' 1 0 [(8,bv false)] ?_)
  subst hR
  refine ie (A5 ?_)
  exact C8 hr hD
 have h41p:¬ ((¬ y1.1=y2.1)∨(¬ y1.2=y2.2)):=by simpa using h41
 refine A4 (nx (A2 2 rfl (ix rfl (B5 (c:=1) rfl rfl rfl rfl (by decide)) (ip' 1 0 [(86,iv 1)] (A3 (G0 (sr 1 rfl (ip' 1 0 [(87,bv true)] (ie (A7 (N1 rfl (A4 (nx (A7 (B1 (sr 2 rfl (ix rfl (F9 (v:=.slice (va r29.q) (((([]:List Act)++y0)++pens).length) r29.k) (us:=[.slice (va r29.q) (((([]:List Act)++y0)++pens).length) r29.k]) Tryz.underlying29 E0p rfl rfl rfl 1 rfl (by decide) rfl rfl rfl) (ip' 1 0 [(15,.slice (va r29.q) (((([]:List Act)++y0)++pens).length) r29.k)] (ie (sr 7 rfl (ip' 1 6 [(90,.slice (va r29.q) (((([]:List Act)++y0)++pens).length) r29.k)] ?_)))))))))))))))))))))
 have:=VOk.cap hr30
 have:=VOk.le hr30
 refine Y5 (bx b1 (A0 ({a with text:=(a.text.take ((if (600:Int)<(a.text.length:Int) then (600:Int) else (a.text.length:Int)).toNat))})) 26::(vo A0 26 r34 ((([]:List Act)++pens)++y0))++([])) ((vo A0 26 bentr bent)++([])) (T:=26) (c:=A0) (r:=r29) (xs:=((([]:List Act)++y0)++pens)) hr30 (by first|rfl|simp) ?_
 refine D9f (L':=(bx b1 (A0 ({a with text:=(a.text.take ((if (600:Int)<(a.text.length:Int) then (600:Int) else (a.text.length:Int)).toNat))})) 26::(vo A0 26 r34 ((([]:List Act)++pens)++y0))++((vo A0 26 bentr bent)++([])))) (by first|rfl|simp) ?_
 have hQ:=C2 hR;clear hR;obtain ⟨y4,hy4,hR⟩:=hQ
 refine it rfl (A2a (L2:=(bx b1 (A0 ({a with text:=(a.text.take ((if (600:Int)<(a.text.length:Int) then (600:Int) else (a.text.length:Int)).toNat))})) 26::(vo A0 26 r34 ((([]:List Act)++pens)++y0))++((vo A0 26 bentr bent)++([])))) (A6r ((([]:List Act)++y0)++pens) (va r29.q) r29.k (by first|omega|(simp<;>omega)|(dsimp only;omega)|decide) (by first|omega|(simp<;>omega)|(dsimp only;omega)|decide) (by first|assumption|decide|exact fun x hx=>Nat.le_trans (hrow x hx) (by decide)|exact fun x hx=>Nat.le_trans (of_decide_eq_true (List.all_eq_true.1 hbt x hx)) (by decide)|(intro x hx;simp only [List.nil_append,List.mem_append] at hx;rcases hx with hx|hx<;>first|exact Nat.le_trans (hrow x hx) (by decide)|exact Nat.le_trans (hpt x hx) (by decide))|(intro x hx;rw [List.mem_singleton.1 hx];omega)|exact fun x hx=>Nat.le_trans (hrow x (List.mem_of_mem_take hx)) (by decide)|exact fun x hx=>Nat.le_trans (hrow x (List.mem_of_mem_drop hx)) (by decide)|exact fun x hx=>Nat.le_trans (hrow x (List.mem_of_mem_drop (List.mem_of_mem_take hx))) (by decide)|omega) y4 hy4) rfl rfl rfl rfl rfl (A1.pick [0,6,7,8,9,10,11] rfl) (List.Perm.refl _) (fun ⟨r42,hk43⟩=>(bx b1 (A0 ({a with text:=(a.text.take ((if (600:Int)<(a.text.length:Int) then (600:Int) else (a.text.length:Int)).toNat))})) 26::(vo cU8 5 r42 y4.1)++((vo A0 26 r34 ((([]:List Act)++pens)++y0))++((vo A0 26 bentr bent)++([]))))) (fun ⟨r42,hk43⟩=>P4 [vo cU8 5 r42 y4.1,[bx b1 (A0 ({a with text:=(a.text.take ((if (600:Int)<(a.text.length:Int) then (600:Int) else (a.text.length:Int)).toNat))})) 26],vo A0 26 r34 ((([]:List Act)++pens)++y0),vo A0 26 bentr bent] [1,0,2,3] 4 rfl (by decide) (by first|rfl|simp) [[bx b1 (A0 ({a with text:=(a.text.take ((if (600:Int)<(a.text.length:Int) then (600:Int) else (a.text.length:Int)).toNat))})) 26],vo cU8 5 r42 y4.1,vo A0 26 r34 ((([]:List Act)++pens)++y0),vo A0 26 bentr bent] rfl (by first|rfl|simp))) fun ⟨r42,hk43⟩=>?_
 have:=VOk.le hk43
 have:=VOk.cap hk43
 try have:=A4d ((([]:List Act)++y0)++pens) (fun x hx=>Nat.le_trans (hrow x (by first|exact hx|exact List.mem_of_mem_take hx|exact List.mem_of_mem_drop hx)) (by decide));try rw [hy4] at this
 refine Y5 [bx b1 (A0 ({a with text:=(a.text.take ((if (600:Int)<(a.text.length:Int) then (600:Int) else (a.text.length:Int)).toNat))})) 26] ((vo A0 26 r34 ((([]:List Act)++pens)++y0))++((vo A0 26 bentr bent)++([]))) (T:=5) (c:=cU8) (r:=r42) (xs:=y4.1) hk43 (by first|rfl|simp) ?_
 refine ip' 5 0 [(16,.slice (va r42.q) y4.1.length r42.k),(17,iv y4.2)] (ie (sr 7 rfl (ip' 1 6 [(95,.slice (va r29.q) (((([]:List Act)++y0)++pens).length) r29.k)] ?_)))
 have hQ:=C2 hR;clear hR;obtain ⟨y6,hy6,hR⟩:=hQ
 refine it rfl (A2a (L2:=(bx b1 (A0 ({a with text:=(a.text.take ((if (600:Int)<(a.text.length:Int) then (600:Int) else (a.text.length:Int)).toNat))})) 26::(vo A0 26 r34 ((([]:List Act)++pens)++y0))++((vo A0 26 bentr bent)++([])))) (B1a ((([]:List Act)++y0)++pens) (va r29.q) r29.k (by first|omega|(simp<;>omega)|(dsimp only;omega)|decide) (by first|omega|(simp<;>omega)|(dsimp only;omega)|decide) (by first|assumption|decide|exact fun x hx=>Nat.le_trans (hrow x hx) (by decide)|exact fun x hx=>Nat.le_trans (of_decide_eq_true (List.all_eq_true.1 hbt x hx)) (by decide)|(intro x hx;simp only [List.nil_append,List.mem_append] at hx;rcases hx with hx|hx<;>first|exact Nat.le_trans (hrow x hx) (by decide)|exact Nat.le_trans (hpt x hx) (by decide))|(intro x hx;rw [List.mem_singleton.1 hx];omega)|exact fun x hx=>Nat.le_trans (hrow x (List.mem_of_mem_take hx)) (by decide)|exact fun x hx=>Nat.le_trans (hrow x (List.mem_of_mem_drop hx)) (by decide)|exact fun x hx=>Nat.le_trans (hrow x (List.mem_of_mem_drop (List.mem_of_mem_take hx))) (by decide)|omega) y6 hy6) rfl rfl rfl rfl rfl (A1.pick [1] rfl) (List.Perm.refl _) (fun ⟨r44,hk45⟩=>(bx b1 (A0 ({a with text:=(a.text.take ((if (600:Int)<(a.text.length:Int) then (600:Int) else (a.text.length:Int)).toNat))})) 26::(vo cU8 5 r44 y6.1)++((vo A0 26 r34 ((([]:List Act)++pens)++y0))++((vo A0 26 bentr bent)++([]))))) (fun ⟨r44,hk45⟩=>P4 [vo cU8 5 r44 y6.1,[bx b1 (A0 ({a with text:=(a.text.take ((if (600:Int)<(a.text.length:Int) then (600:Int) else (a.text.length:Int)).toNat))})) 26],vo A0 26 r34 ((([]:List Act)++pens)++y0),vo A0 26 bentr bent] [1,0,2,3] 4 rfl (by decide) (by first|rfl|simp) [[bx b1 (A0 ({a with text:=(a.text.take ((if (600:Int)<(a.text.length:Int) then (600:Int) else (a.text.length:Int)).toNat))})) 26],vo cU8 5 r44 y6.1,vo A0 26 r34 ((([]:List Act)++pens)++y0),vo A0 26 bentr bent] rfl (by first|rfl|simp))) fun ⟨r44,hk45⟩=>?_
 have:=VOk.le hk45
 have:=VOk.cap hk45
 refine Y5 [bx b1 (A0 ({a with text:=(a.text.take ((if (600:Int)<(a.text.length:Int) then (600:Int) else (a.text.length:Int)).toNat))})) 26] ((vo A0 26 r34 ((([]:List Act)++pens)++y0))++((vo A0 26 bentr bent)++([]))) (T:=5) (c:=cU8) (r:=r44) (xs:=y6.1) hk45 (by first|rfl|simp) ?_
 refine ip' 5 0 [(18,.slice (va r44.q) y6.1.length r44.k),(19,iv y6.2)] (ie (sr 10 rfl (ip' 1 9 [(99,.slice (va r42.q) y4.1.length r42.k)] (ix rfl (A1s Tryz.underlying9 Tryz.underlying30 rfl rfl (A9 1 rfl) rfl (by kernel_rfl)) (ip' 1 7 [(101,.slice (va r44.q) y6.1.length r44.k)] (ix rfl (A1s Tryz.underlying9 Tryz.underlying30 rfl rfl (A9 0 rfl) rfl (by kernel_rfl)) (ix rfl (V0 rfl rfl rfl) (ip' 1 4 [(104,bv (!(decide (y4.1=y6.1))))] ?_))))))))
 refine zio 4 0 104 108 (!decide (y4.2=y6.2)) (fun g46=>?_) ?_
 ·have g46p:¬ (¬ y4.1=y6.1):=by simpa using g46
  refine ip' 4 0 [(108,bv (!decide (y4.2=y6.2)))] ?_
  exact A3 (K5 2 104 108 g46 A1.refl (mc [[bx b1 (A0 ({a with text:=(a.text.take ((if (600:Int)<(a.text.length:Int) then (600:Int) else (a.text.length:Int)).toNat))})) 26],vo A0 26 r34 ((([]:List Act)++pens)++y0),vo A0 26 bentr bent] [true,true,true] rfl (by first|rfl|(simp only [List.length_set]<;>rfl))) rfl rfl rfl rfl rfl)
 refine ie ?_
 refine zjb rfl hR ?_ ?_<;>clear hR<;>intro hR h47
 ·have h47p:(¬ y4.1=y6.1)∨(¬ y4.2=y6.2):=by simpa using h47
  refine sr 1 rfl (ip' 1 0 [(8,bv false)] ?_)
  subst hR
  refine ie (A5 ?_)
  exact C8 hr hD
 have h47p:¬ ((¬ y4.1=y6.1)∨(¬ y4.2=y6.2)):=by simpa using h47
 refine A4 (nx (A2 2 rfl (ix rfl (B5 (c:=2) rfl rfl rfl rfl (by decide)) (ip' 1 0 [(86,iv 2)] (A3 (G0 (sr 1 rfl (ip' 1 0 [(87,bv true)] (ie (A7 (N1 rfl (A4 (nx (A7 (B1 (sr 2 rfl (ix rfl (F9 (v:=.slice (va r34.q) (((([]:List Act)++pens)++y0).length) r34.k) (us:=[.slice (va r34.q) (((([]:List Act)++pens)++y0).length) r34.k]) Tryz.underlying29 E0p rfl rfl rfl 2 rfl (by decide) rfl rfl rfl) (ip' 1 0 [(15,.slice (va r34.q) (((([]:List Act)++pens)++y0).length) r34.k)] (ie (sr 7 rfl (ip' 1 6 [(90,.slice (va r34.q) (((([]:List Act)++pens)++y0).length) r34.k)] ?_)))))))))))))))))))))
 have:=VOk.cap hr35
 have:=VOk.le hr35
 refine Y5 [bx b1 (A0 ({a with text:=(a.text.take ((if (600:Int)<(a.text.length:Int) then (600:Int) else (a.text.length:Int)).toNat))})) 26] ((vo A0 26 bentr bent)++([])) (T:=26) (c:=A0) (r:=r34) (xs:=((([]:List Act)++pens)++y0)) hr35 (by first|rfl|simp) ?_
 have hQ:=C2 hR;clear hR;obtain ⟨y5,hy5,hR⟩:=hQ
 refine it rfl (A2a (L2:=(bx b1 (A0 ({a with text:=(a.text.take ((if (600:Int)<(a.text.length:Int) then (600:Int) else (a.text.length:Int)).toNat))})) 26::(vo A0 26 bentr bent)++([]))) (A6r ((([]:List Act)++pens)++y0) (va r34.q) r34.k (by first|omega|(simp<;>omega)|(dsimp only;omega)|decide) (by first|omega|(simp<;>omega)|(dsimp only;omega)|decide) (by first|assumption|decide|exact fun x hx=>Nat.le_trans (hrow x hx) (by decide)|exact fun x hx=>Nat.le_trans (of_decide_eq_true (List.all_eq_true.1 hbt x hx)) (by decide)|(intro x hx;simp only [List.nil_append,List.mem_append] at hx;rcases hx with hx|hx<;>first|exact Nat.le_trans (hrow x hx) (by decide)|exact Nat.le_trans (hpt x hx) (by decide))|(intro x hx;rw [List.mem_singleton.1 hx];omega)|exact fun x hx=>Nat.le_trans (hrow x (List.mem_of_mem_take hx)) (by decide)|exact fun x hx=>Nat.le_trans (hrow x (List.mem_of_mem_drop hx)) (by decide)|exact fun x hx=>Nat.le_trans (hrow x (List.mem_of_mem_drop (List.mem_of_mem_take hx))) (by decide)|omega) y5 hy5) rfl rfl rfl rfl rfl (A1.pick [0,9,10,11,12,13,14] rfl) (List.Perm.refl _) (fun ⟨r48,hk49⟩=>(bx b1 (A0 ({a with text:=(a.text.take ((if (600:Int)<(a.text.length:Int) then (600:Int) else (a.text.length:Int)).toNat))})) 26::(vo cU8 5 r48 y5.1)++((vo A0 26 bentr bent)++([])))) (fun ⟨r48,hk49⟩=>P4 [vo cU8 5 r48 y5.1,[bx b1 (A0 ({a with text:=(a.text.take ((if (600:Int)<(a.text.length:Int) then (600:Int) else (a.text.length:Int)).toNat))})) 26],vo A0 26 bentr bent] [1,0,2] 3 rfl (by decide) (by first|rfl|simp) [[bx b1 (A0 ({a with text:=(a.text.take ((if (600:Int)<(a.text.length:Int) then (600:Int) else (a.text.length:Int)).toNat))})) 26],vo cU8 5 r48 y5.1,vo A0 26 bentr bent] rfl (by first|rfl|simp))) fun ⟨r48,hk49⟩=>?_
 have:=VOk.le hk49
 have:=VOk.cap hk49
 try have:=A4d ((([]:List Act)++pens)++y0) (fun x hx=>Nat.le_trans (hrow x (by first|exact hx|exact List.mem_of_mem_take hx|exact List.mem_of_mem_drop hx)) (by decide));try rw [hy5] at this
 refine Y5 [bx b1 (A0 ({a with text:=(a.text.take ((if (600:Int)<(a.text.length:Int) then (600:Int) else (a.text.length:Int)).toNat))})) 26] ((vo A0 26 bentr bent)++([])) (T:=5) (c:=cU8) (r:=r48) (xs:=y5.1) hk49 (by first|rfl|simp) ?_
 refine ip' 5 0 [(16,.slice (va r48.q) y5.1.length r48.k),(17,iv y5.2)] (ie (sr 7 rfl (ip' 1 6 [(95,.slice (va r34.q) (((([]:List Act)++pens)++y0).length) r34.k)] ?_)))
 have hQ:=C2 hR;clear hR;obtain ⟨y8,hy8,hR⟩:=hQ
 refine it rfl (A2a (L2:=(bx b1 (A0 ({a with text:=(a.text.take ((if (600:Int)<(a.text.length:Int) then (600:Int) else (a.text.length:Int)).toNat))})) 26::(vo A0 26 bentr bent)++([]))) (B1a ((([]:List Act)++pens)++y0) (va r34.q) r34.k (by first|omega|(simp<;>omega)|(dsimp only;omega)|decide) (by first|omega|(simp<;>omega)|(dsimp only;omega)|decide) (by first|assumption|decide|exact fun x hx=>Nat.le_trans (hrow x hx) (by decide)|exact fun x hx=>Nat.le_trans (of_decide_eq_true (List.all_eq_true.1 hbt x hx)) (by decide)|(intro x hx;simp only [List.nil_append,List.mem_append] at hx;rcases hx with hx|hx<;>first|exact Nat.le_trans (hrow x hx) (by decide)|exact Nat.le_trans (hpt x hx) (by decide))|(intro x hx;rw [List.mem_singleton.1 hx];omega)|exact fun x hx=>Nat.le_trans (hrow x (List.mem_of_mem_take hx)) (by decide)|exact fun x hx=>Nat.le_trans (hrow x (List.mem_of_mem_drop hx)) (by decide)|exact fun x hx=>Nat.le_trans (hrow x (List.mem_of_mem_drop (List.mem_of_mem_take hx))) (by decide)|omega) y8 hy8) rfl rfl rfl rfl rfl (A1.pick [1] rfl) (List.Perm.refl _) (fun ⟨r50,hk51⟩=>(bx b1 (A0 ({a with text:=(a.text.take ((if (600:Int)<(a.text.length:Int) then (600:Int) else (a.text.length:Int)).toNat))})) 26::(vo cU8 5 r50 y8.1)++((vo A0 26 bentr bent)++([])))) (fun ⟨r50,hk51⟩=>P4 [vo cU8 5 r50 y8.1,[bx b1 (A0 ({a with text:=(a.text.take ((if (600:Int)<(a.text.length:Int) then (600:Int) else (a.text.length:Int)).toNat))})) 26],vo A0 26 bentr bent] [1,0,2] 3 rfl (by decide) (by first|rfl|simp) [[bx b1 (A0 ({a with text:=(a.text.take ((if (600:Int)<(a.text.length:Int) then (600:Int) else (a.text.length:Int)).toNat))})) 26],vo cU8 5 r50 y8.1,vo A0 26 bentr bent] rfl (by first|rfl|simp))) fun ⟨r50,hk51⟩=>?_
 have:=VOk.le hk51
 have:=VOk.cap hk51
 refine Y5 [bx b1 (A0 ({a with text:=(a.text.take ((if (600:Int)<(a.text.length:Int) then (600:Int) else (a.text.length:Int)).toNat))})) 26] ((vo A0 26 bentr bent)++([])) (T:=5) (c:=cU8) (r:=r50) (xs:=y8.1) hk51 (by first|rfl|simp) ?_
 refine ip' 5 0 [(18,.slice (va r50.q) y8.1.length r50.k),(19,iv y8.2)] (ie (sr 10 rfl (ip' 1 9 [(99,.slice (va r48.q) y5.1.length r48.k)] (ix rfl (A1s Tryz.underlying9 Tryz.underlying30 rfl rfl (A9 1 rfl) rfl (by kernel_rfl)) (ip' 1 7 [(101,.slice (va r50.q) y8.1.length r50.k)] (ix rfl (A1s Tryz.underlying9 Tryz.underlying30 rfl rfl (A9 0 rfl) rfl (by kernel_rfl)) (ix rfl (V0 rfl rfl rfl) (ip' 1 4 [(104,bv (!(decide (y5.1=y8.1))))] ?_))))))))
 refine zio 4 0 104 108 (!decide (y5.2=y8.2)) (fun g52=>?_) ?_
 ·have g52p:¬ (¬ y5.1=y8.1):=by simpa using g52
  refine ip' 4 0 [(108,bv (!decide (y5.2=y8.2)))] ?_
  exact A3 (K5 2 104 108 g52 A1.refl (mc [[bx b1 (A0 ({a with text:=(a.text.take ((if (600:Int)<(a.text.length:Int) then (600:Int) else (a.text.length:Int)).toNat))})) 26],vo A0 26 bentr bent] [true,true] rfl (by first|rfl|(simp only [List.length_set]<;>rfl))) rfl rfl rfl rfl rfl)
 refine ie ?_
 refine zjb rfl hR ?_ ?_<;>clear hR<;>intro hR h53
 ·have h53p:(¬ y5.1=y8.1)∨(¬ y5.2=y8.2):=by simpa using h53
  refine sr 1 rfl (ip' 1 0 [(8,bv false)] ?_)
  subst hR
  refine ie (A5 ?_)
  exact C8 hr hD
 have h53p:¬ ((¬ y5.1=y8.1)∨(¬ y5.2=y8.2)):=by simpa using h53
 refine A4 (nx (A2 2 rfl (ix rfl (B5 (c:=3) rfl rfl rfl rfl (by decide)) (ip' 1 0 [(86,iv 3)] (A3 (G0 (sr 1 rfl (ip' 1 0 [(87,bv true)] (ie (A7 (N1 rfl (A4 (nx (A7 (B1 (sr 2 rfl (ix rfl (F9 (v:=.slice (va bentr.q) bent.length bentr.k) (us:=[.slice (va bentr.q) bent.length bentr.k]) Tryz.underlying29 E0p rfl rfl rfl 3 rfl (by decide) rfl rfl rfl) (ip' 1 0 [(15,.slice (va bentr.q) bent.length bentr.k)] (ie (sr 7 rfl (ip' 1 6 [(90,.slice (va bentr.q) bent.length bentr.k)] ?_)))))))))))))))))))))
 have:=VOk.cap hokbentr
 have:=VOk.le hokbentr
 refine Y5 [bx b1 (A0 ({a with text:=(a.text.take ((if (600:Int)<(a.text.length:Int) then (600:Int) else (a.text.length:Int)).toNat))})) 26] [] (T:=26) (c:=A0) (r:=bentr) (xs:=bent) hokbentr (by first|rfl|simp) ?_
 have hQ:=C2 hR;clear hR;obtain ⟨y3,hy3,hR⟩:=hQ
 refine it rfl (A2a (L2:=[bx b1 (A0 ({a with text:=(a.text.take ((if (600:Int)<(a.text.length:Int) then (600:Int) else (a.text.length:Int)).toNat))})) 26]) (A6r bent (va bentr.q) bentr.k (by first|omega|(simp<;>omega)|(dsimp only;omega)|decide) (by first|omega|(simp<;>omega)|(dsimp only;omega)|decide) (by first|assumption|decide|exact fun x hx=>Nat.le_trans (hrow x hx) (by decide)|exact fun x hx=>Nat.le_trans (of_decide_eq_true (List.all_eq_true.1 hbt x hx)) (by decide)|(intro x hx;simp only [List.nil_append,List.mem_append] at hx;rcases hx with hx|hx<;>first|exact Nat.le_trans (hrow x hx) (by decide)|exact Nat.le_trans (hpt x hx) (by decide))|(intro x hx;rw [List.mem_singleton.1 hx];omega)|exact fun x hx=>Nat.le_trans (hrow x (List.mem_of_mem_take hx)) (by decide)|exact fun x hx=>Nat.le_trans (hrow x (List.mem_of_mem_drop hx)) (by decide)|exact fun x hx=>Nat.le_trans (hrow x (List.mem_of_mem_drop (List.mem_of_mem_take hx))) (by decide)|omega) y3 hy3) rfl rfl rfl rfl rfl (A1.pick [0,12,13,14,15,16,17] rfl) (List.Perm.refl _) (fun ⟨r54,hk55⟩=>(bx b1 (A0 ({a with text:=(a.text.take ((if (600:Int)<(a.text.length:Int) then (600:Int) else (a.text.length:Int)).toNat))})) 26::(vo cU8 5 r54 y3.1)++([]))) (fun ⟨r54,hk55⟩=>P4 [vo cU8 5 r54 y3.1,[bx b1 (A0 ({a with text:=(a.text.take ((if (600:Int)<(a.text.length:Int) then (600:Int) else (a.text.length:Int)).toNat))})) 26]] [1,0] 2 rfl (by decide) (by first|rfl|simp) [[bx b1 (A0 ({a with text:=(a.text.take ((if (600:Int)<(a.text.length:Int) then (600:Int) else (a.text.length:Int)).toNat))})) 26],vo cU8 5 r54 y3.1] rfl (by first|rfl|simp))) fun ⟨r54,hk55⟩=>?_
 have:=VOk.le hk55
 have:=VOk.cap hk55
 try have:=A4d bent (fun x hx=>Nat.le_trans (hrow x (by first|exact hx|exact List.mem_of_mem_take hx|exact List.mem_of_mem_drop hx)) (by decide));try rw [hy3] at this
 refine Y5 [bx b1 (A0 ({a with text:=(a.text.take ((if (600:Int)<(a.text.length:Int) then (600:Int) else (a.text.length:Int)).toNat))})) 26] [] (T:=5) (c:=cU8) (r:=r54) (xs:=y3.1) hk55 (by first|rfl|simp) ?_
 refine ip' 5 0 [(16,.slice (va r54.q) y3.1.length r54.k),(17,iv y3.2)] (ie (sr 7 rfl (ip' 1 6 [(95,.slice (va bentr.q) bent.length bentr.k)] ?_)))
 have hQ:=C2 hR;clear hR;obtain ⟨y7,hy7,hR⟩:=hQ
 refine it rfl (A2a (L2:=[bx b1 (A0 ({a with text:=(a.text.take ((if (600:Int)<(a.text.length:Int) then (600:Int) else (a.text.length:Int)).toNat))})) 26]) (B1a bent (va bentr.q) bentr.k (by first|omega|(simp<;>omega)|(dsimp only;omega)|decide) (by first|omega|(simp<;>omega)|(dsimp only;omega)|decide) (by first|assumption|decide|exact fun x hx=>Nat.le_trans (hrow x hx) (by decide)|exact fun x hx=>Nat.le_trans (of_decide_eq_true (List.all_eq_true.1 hbt x hx)) (by decide)|(intro x hx;simp only [List.nil_append,List.mem_append] at hx;rcases hx with hx|hx<;>first|exact Nat.le_trans (hrow x hx) (by decide)|exact Nat.le_trans (hpt x hx) (by decide))|(intro x hx;rw [List.mem_singleton.1 hx];omega)|exact fun x hx=>Nat.le_trans (hrow x (List.mem_of_mem_take hx)) (by decide)|exact fun x hx=>Nat.le_trans (hrow x (List.mem_of_mem_drop hx)) (by decide)|exact fun x hx=>Nat.le_trans (hrow x (List.mem_of_mem_drop (List.mem_of_mem_take hx))) (by decide)|omega) y7 hy7) rfl rfl rfl rfl rfl (A1.pick [1] rfl) (List.Perm.refl _) (fun ⟨r56,hk57⟩=>(bx b1 (A0 ({a with text:=(a.text.take ((if (600:Int)<(a.text.length:Int) then (600:Int) else (a.text.length:Int)).toNat))})) 26::(vo cU8 5 r56 y7.1)++([]))) (fun ⟨r56,hk57⟩=>P4 [vo cU8 5 r56 y7.1,[bx b1 (A0 ({a with text:=(a.text.take ((if (600:Int)<(a.text.length:Int) then (600:Int) else (a.text.length:Int)).toNat))})) 26]] [1,0] 2 rfl (by decide) (by first|rfl|simp) [[bx b1 (A0 ({a with text:=(a.text.take ((if (600:Int)<(a.text.length:Int) then (600:Int) else (a.text.length:Int)).toNat))})) 26],vo cU8 5 r56 y7.1] rfl (by first|rfl|simp))) fun ⟨r56,hk57⟩=>?_
 have:=VOk.le hk57
 have:=VOk.cap hk57
 refine Y5 [bx b1 (A0 ({a with text:=(a.text.take ((if (600:Int)<(a.text.length:Int) then (600:Int) else (a.text.length:Int)).toNat))})) 26] [] (T:=5) (c:=cU8) (r:=r56) (xs:=y7.1) hk57 (by first|rfl|simp) ?_
 refine ip' 5 0 [(18,.slice (va r56.q) y7.1.length r56.k),(19,iv y7.2)] (ie (sr 10 rfl (ip' 1 9 [(99,.slice (va r54.q) y3.1.length r54.k)] (ix rfl (A1s Tryz.underlying9 Tryz.underlying30 rfl rfl (A9 1 rfl) rfl (by kernel_rfl)) (ip' 1 7 [(101,.slice (va r56.q) y7.1.length r56.k)] (ix rfl (A1s Tryz.underlying9 Tryz.underlying30 rfl rfl (A9 0 rfl) rfl (by kernel_rfl)) (ix rfl (V0 rfl rfl rfl) (ip' 1 4 [(104,bv (!(decide (y3.1=y7.1))))] ?_))))))))
 refine zio 4 0 104 108 (!decide (y3.2=y7.2)) (fun g58=>?_) ?_
 ·have g58p:¬ (¬ y3.1=y7.1):=by simpa using g58
  refine ip' 4 0 [(108,bv (!decide (y3.2=y7.2)))] ?_
  exact zai 2 104 108 g58
 refine ie ?_
 refine zjb rfl hR ?_ ?_<;>clear hR<;>intro hR h59
 ·have h59p:(¬ y3.1=y7.1)∨(¬ y3.2=y7.2):=by simpa using h59
  refine sr 1 rfl (ip' 1 0 [(8,bv false)] ?_)
  subst hR
  refine ie (A5 ?_)
  exact C8 hr hD
 have h59p:¬ ((¬ y3.1=y7.1)∨(¬ y3.2=y7.2)):=by simpa using h59
 refine A4 (nx (A2 2 rfl (ix rfl (B5 (c:=4) rfl rfl rfl rfl (by decide)) (ip' 1 0 [(86,iv 4)] (A3 (G0 (sr 1 rfl (ip' 1 0 [(87,bv false)] (ie (A7 (A9i rfl (G6 (nx (sr 2 rfl (zca (C5a _ rfl) (A1.pick [14,15,16,17,18,19] rfl) (ip' 1 0 [(8,bv A7v)] ?_))))))))))))))))
 subst hR
 refine ie (A5 ?_)
 exact C8 hr hD
end Go.Proofs.YtanighkpfmgnbaaGreatDoor
