import Derived.Lib.Builder
import Derived.Lib.UnsafeStr
import Derived.Laws.Externs
import Derived.WalkKit
import Derived.Shelf.RegionOpenPlain
import Derived.Shelf.Strings.Repeat
import Derived.Test.YtanighkpfmgnbaaGreatDoorProg
import Derived.Test.YtanighkpfmgnbaaGreatDoorMA2
set_option linter.unusedVariables false
set_option linter.unusedSimpArgs false
namespace Go.Proofs.YtanighkpfmgnbaaGreatDoor
open Go Go.Fen Go.RowKit
set_option maxHeartbeats 1000000 in
set_option maxRecDepth 100000 in
theorem C7x (b g cap:Nat) (p:Value) (cur:Array Value) (l:List UInt8) (w:World) (h0:l≠[]) (hbk:w.heap[b]?=some (.cells #[p,.slice (some ⟨g,0,none⟩) l.length cap] 91 (0,0))) (hg:w.heap[g]?=some (.cells cur 5 (0,0)))
  (hnc:l.length≤cap) (hcm:cap≤maxLen) (hcs:cur.size=cap) (hcells:∀ (j:Nat) (x:UInt8),l[j]?=some x→cur[j]?=some (Value.int .u8 (x.toNat:Int))) :
  Calls Tryz.prog 50 #[.pointer (some ⟨b,0,none⟩)] w fun e w'=>e=.returned (.string ⟨l.toArray⟩)∧KeptBut [g] w w':=by
 have hl0:l.length≠0:=by simpa using h0
 have c1:w.drew.cell? ⟨b,1,none⟩=some (.slice (some ⟨g,0,none⟩) l.length cap):=by
  have:w.drew.heap[b]?=some (.cells #[p,.slice (some ⟨g,0,none⟩) l.length cap] 91 (0,0)):=hbk
  rw [Lib.cell_of_heap this];rfl
 have hSD:(Builtin.unsafeSliceData_ #[30] 153 #[.slice (some ⟨g,0,none⟩) l.length cap]).run Tryz.prog w.drew=.ok (.pointer (some ⟨g,0,none⟩)) w.drew :=
  Lib.run_unsafeSliceData_row _ _ _ _ _ _ (by omega)
 have hUS:(Builtin.unsafeString_ #[153,3] 9 #[.pointer (some ⟨g,0,none⟩),.int .i64 l.length]).run Tryz.prog w.drew=.ok (.string ⟨l.toArray⟩) (w.drew.freeze ⟨g,0,none⟩ l.length):=by
  refine Lib.run_unsafeString_row w.drew 153 3 9 5 Tryz.underlying153 (by kernel_rfl) g cur.size (by have hg':w.drew.heap[g]?=some (.cells cur 5 (0,0)):=hg;simp [World.shape?,hg']) l h0 (by omega) (by unfold maxLen at hcm;omega) ?_
  intro j x hx
  have hg':w.drew.heap[g]?=some (.cells cur 5 (0,0)):=hg
  rw [Addr.add_lit,Nat.zero_add,Lib.cell_of_heap hg']
  exact hcells j x hx
 have mixed:Tryz.prog.follows .mixedOrders=true:=by kernel_rfl
 go_enter Tryz.func50,Tryz.ntmps50
 go_wp2
 go_region_o
 all_goals (go_wp2;go_ret;exact ⟨rfl,C5b (A8e w) (by simp) _⟩)
set_option maxHeartbeats 2000000 in
set_option maxRecDepth 100000 in
theorem D0z (b:Nat) (p:Value) (w:World) (hbk:w.heap[b]?=some (.cells #[p,.slice none 0 0] 91 (0,0))) :
  Calls Tryz.prog 50 #[.pointer (some ⟨b,0,none⟩)] w fun e w'=>e=.returned (.string ⟨#[]⟩)∧KeptBut [] w w':=by
 have hUS:=fun (W:World) (q:Option Addr)=>Lib.run_unsafeString_none (P:=Tryz.prog) W 153 3 9 q
 have c1:w.drew.cell? ⟨b,1,none⟩=some (.slice none 0 0):=by
  have:w.drew.heap[b]?=some (.cells #[p,.slice none 0 0] 91 (0,0)):=hbk
  rw [Lib.cell_of_heap this];rfl
 have hSD:(Builtin.unsafeSliceData_ #[30] 153 #[.slice none 0 0]).run Tryz.prog w.drew=.ok (.pointer none) w.drew:=rfl
 have mixed:Tryz.prog.follows .mixedOrders=true:=by kernel_rfl
 go_enter Tryz.func50,Tryz.ntmps50
 go_wp2
 go_region_o
 all_goals (go_wp2;go_ret;exact ⟨rfl,A8e w⟩)
set_option maxHeartbeats 2000000 in
set_option maxRecDepth 100000 in
theorem C6b (b g:Nat) (p:Value) (cur:Array Value) (w:World) (hbk:w.heap[b]?=some (.cells #[p,.slice (some ⟨g,0,none⟩) 0 0] 91 (0,0))) (hg:w.heap[g]?=some (.cells cur 5 (0,0))) :
  Calls Tryz.prog 50 #[.pointer (some ⟨b,0,none⟩)] w fun e w'=>e=.returned (.string ⟨#[]⟩)∧KeptBut [g] w w':=by
 have hUS:=fun (W:World) (q:Option Addr)=>Lib.run_unsafeString_none (P:=Tryz.prog) W 153 3 9 q
 have hlt:b<w.heap.size:=by
  rcases Nat.lt_or_ge b w.heap.size with h' | h'
  ·exact h'
  ·simp [Array.getElem?_eq_none h'] at hbk
 have c1:w.drew.cell? ⟨b,1,none⟩=some (.slice (some ⟨g,0,none⟩) 0 0):=by
  have:w.drew.heap[b]?=some (.cells #[p,.slice (some ⟨g,0,none⟩) 0 0] 91 (0,0)):=hbk
  rw [Lib.cell_of_heap this];rfl
 have hSD:(Builtin.unsafeSliceData_ #[30] 153 #[.slice (some ⟨g,0,none⟩) 0 0]).run Tryz.prog w.drew=.ok (.pointer (some ⟨w.drew.heap.size,0,none⟩)) (w.drew.alloc (.view ⟨g,0,none⟩ 5)) :=
  Lib.run_unsafeSliceData_zero w.drew _ _ 5 Tryz.underlying153 ⟨g,0,none⟩ 0 (5,cur.size) (by have hg':w.drew.heap[g]?=some (.cells cur 5 (0,0)):=hg;simp [World.shape?,hg'])
 have c2:(w.drew.alloc (.view ⟨g,0,none⟩ 5)).cell? ⟨b,1,none⟩=some (.slice (some ⟨g,0,none⟩) 0 0):=by
  have:(w.drew.alloc (.view ⟨g,0,none⟩ 5)).heap[b]?=_:=(Lib.alloc_old w.drew _ b hlt).trans hbk
  rw [Lib.cell_of_heap this];rfl
 have c3:(w.alloc (.view ⟨g,0,none⟩ 5)).drew.cell? ⟨b,1,none⟩=some (.slice (some ⟨g,0,none⟩) 0 0):=c2
 have c0:w.cell? ⟨b,1,none⟩=some (.slice (some ⟨g,0,none⟩) 0 0):=c1
 have mixed:Tryz.prog.follows .mixedOrders=true:=by kernel_rfl
 go_enter Tryz.func50,Tryz.ntmps50
 go_wp2
 go_region_o
 all_goals (go_wp2;go_ret;exact ⟨rfl,(A8e w).alloc _⟩)
set_option maxHeartbeats 2000000 in
set_option maxRecDepth 100000 in
theorem C9a (b g cap:Nat) (p:Value) (w:World) (hc0:cap≠0) (hbk:w.heap[b]?=some (.cells #[p,.slice (some ⟨g,0,none⟩) 0 cap] 91 (0,0))) :
  Calls Tryz.prog 50 #[.pointer (some ⟨b,0,none⟩)] w fun e w'=>e=.returned (.string ⟨#[]⟩)∧KeptBut [g] w w':=by
 have hUS:=fun (W:World) (q:Option Addr)=>Lib.run_unsafeString_none (P:=Tryz.prog) W 153 3 9 q
 have c1:w.drew.cell? ⟨b,1,none⟩=some (.slice (some ⟨g,0,none⟩) 0 cap):=by
  have:w.drew.heap[b]?=some (.cells #[p,.slice (some ⟨g,0,none⟩) 0 cap] 91 (0,0)):=hbk
  rw [Lib.cell_of_heap this];rfl
 have hSD:(Builtin.unsafeSliceData_ #[30] 153 #[.slice (some ⟨g,0,none⟩) 0 cap]).run Tryz.prog w.drew=.ok (.pointer (some ⟨g,0,none⟩)) w.drew :=
  Lib.run_unsafeSliceData_row _ _ _ _ _ _ hc0
 clear hc0
 have mixed:Tryz.prog.follows .mixedOrders=true:=by kernel_rfl
 go_enter Tryz.func50,Tryz.ntmps50
 go_wp2
 go_region_o
 all_goals (go_wp2;go_ret;exact ⟨rfl,A8e w⟩)
theorem E0n {M N:List Nat} {w w':World} (h:KeptBut M w w') (hs:∀ b ∈ M,b ∈ N):KeptBut N w w':=⟨h.1,h.2,h.3,h.4,fun k hk hn=>h.block k hk (fun hm=>hn (hs k hm))⟩
theorem D5v {e0:Nat×Obj} {L0:Fen.Own} {h:Hp} {w w':World} {M:List Nat} (hs:h.sub w) (ho:A1l (e0::L0) h w) (hM:∀ b ∈ M,b ∈ L0.map Prod.fst) (hk:KeptBut M w w'):StW (cx w h ((e0::L0).map Prod.fst)) [e0] [] w':=by
 have hkL:KeptBut ((e0::L0).map Prod.fst) w w':=E0n hk (fun b hb=>List.mem_cons_of_mem _ (hM b hb))
 have h0:=ho.1 e0 (List.mem_cons_self ..)
 have hnd:e0.1 ∉ L0.map Prod.fst:=(List.nodup_cons.1 ho.2).1
 refine ⟨h,⟨fun q hq=>(by cases hq),fun b o e=>?_,Hp.le_refl _,fun b hb=>.inl hb,⟨fun e he=>?_,List.nodup_cons.2 ⟨List.not_mem_nil,List.nodup_nil⟩⟩,fun e he=>?_,hkL,fun d hd=>by cases hd⟩⟩
 ·have hne:b ∉ (e0::L0).map Prod.fst:=fun hm=>by
   obtain ⟨e',he',rfl⟩:=List.mem_map.1 hm
   rw [(ho.1 e' he').2] at e
   cases e
  rw [hkL.block b (Hp.lt hs e) hne]
  exact hs b o e
 ·rw [List.mem_singleton.1 he]
  refine ⟨?_,h0.2⟩
  have hlt:e0.1<w.heap.size:=by
   rcases Nat.lt_or_ge e0.1 w.heap.size with h' | h'
   ·exact h'
   ·rw [Array.getElem?_eq_none h'] at h0;cases h0.1
  rw [hk.block e0.1 hlt (fun hm=>hnd (hM _ hm))]
  exact h0.1
 ·rw [List.mem_singleton.1 he]
  exact .inl (List.mem_map_of_mem (List.mem_cons_self ..))
theorem D7a (b:Nat) (p:Value) (l:List UInt8) (r:VR) (hok:VOk 1 l.length r):Con Tryz.prog 50 [pt b 0] (bx b [p,vv r l.length] 91::(vo cU8 5 r l++[])) [] Unit (fun _=>sv l) (fun _=>[bx b [p,vv r l.length] 91]) (fun _=>[]):=by
 refine ⟨⟨by kernel_rfl⟩,fun w h hq hs ho=>?_⟩
 have hb:=(ho.1 (bx b [p,vv r l.length] 91) (by simp)).1
 simp only at hb
 obtain ⟨q,k,j⟩:=r
 cases q with
 | none =>
  have h0:l.length=0∧k=0:=hok
  have hl:l=[]:=List.eq_nil_of_length_eq_zero h0.1
  obtain ⟨_,hk⟩:=h0
  subst hl hk
  refine (D0z b p w hb).mono ?_
  rintro e w' ⟨he,hk⟩
  exact ⟨(),he,D5v (M:=[]) hs ho (fun _ h=>by cases h) hk⟩
 | some g =>
  have hok':l.length * 1+j.length=k * 1∧l.length≤k∧k≤maxLen:=hok
  have hg:=(ho.1 (bx g (l.flatMap cU8++j) 5) (by simp [vo])).1
  simp only at hg
  have hfl:(l.flatMap cU8).length=l.length:=by rw [F2 (sz:=1) (fun _=>rfl)];omega
  have fin:(Calls Tryz.prog 50 #[pt b 0] w fun e w'=>e=.returned (.string ⟨l.toArray⟩)∧KeptBut [g] w w')→Calls Tryz.prog 50 #[pt b 0] w fun e w'=>∃ x:Unit,e=.returned (sv l)∧StW (cx w h ((bx b [p,vv ⟨some g,k,j⟩ l.length] 91::(vo cU8 5 ⟨some g,k,j⟩ l++[])).map Prod.fst)) [bx b [p,vv ⟨some g,k,j⟩ l.length] 91] [] w':=fun h2=>h2.mono (by
   rintro e w' ⟨he,hk⟩
   exact ⟨(),he,D5v (M:=[g]) hs ho (fun x hx=>by rcases List.mem_singleton.1 hx with rfl;exact List.mem_map_of_mem (f:=Prod.fst) (a:=bx x (l.flatMap cU8++j) 5) (by simp [vo])) hk⟩)
  refine fin ?_
  cases l with
  | nil =>
   by_cases hk:k=0
   ·subst hk
    exact C6b b g p _ w hb hg
   ·exact C9a b g k p w hk hb
  | cons x l =>
   refine C7x b g k p _ (x::l) w (by simp) hb hg hok'.2.1 hok'.2.2 (by simp only [List.size_toArray,List.length_append,hfl];omega) ?_
   intro i y hy
   have hi:=(List.getElem?_eq_some_iff.1 hy).1
   rw [List.getElem?_toArray,List.getElem?_append_left (by rw [hfl];exact hi),C8j _ _ hi]
   rw [List.getElem?_eq_getElem hi] at hy
   simp only [Option.some.injEq] at hy
   rw [hy]
set_option maxHeartbeats 1000000 in
set_option maxRecDepth 100000 in
theorem E8e (b:Nat) (p:Value) (q:Option Addr) (n k:Nat) (w:World) (hbk:w.heap[b]?=some (.cells #[p,.slice q n k] 91 (0,0))) :
  Calls Tryz.prog 49 #[.pointer (some ⟨b,0,none⟩)] w fun e w'=>e=.returned (.int .i64 n)∧w'=w:=by
 have c1:w.cell? ⟨b,1,none⟩=some (.slice q n k):=by rw [Lib.cell_of_heap hbk];rfl
 go_enter Tryz.func49,Tryz.ntmps49
 go_wp2
 go_ret
 exact ⟨rfl,rfl⟩
theorem E5h (b:Nat) (p:Value) (q:Option Addr) (n k:Nat):Con Tryz.prog 49 [pt b 0] [bx b [p,.slice q n k] 91] [] Unit (fun _=>iv n) (fun _=>[bx b [p,.slice q n k] 91]) (fun _=>[]):=by
 refine ⟨⟨by kernel_rfl⟩,fun w h hq hs ho=>?_⟩
 have hb:=(ho.1 _ (List.mem_singleton.2 rfl)).1
 simp only at hb
 refine (E8e b p q n k w hb).mono ?_
 rintro e w' ⟨rfl,rfl⟩
 exact ⟨(),rfl,st0 hs ho⟩
end Go.Proofs.YtanighkpfmgnbaaGreatDoor
set_option linter.unusedVariables false
set_option linter.unusedSimpArgs false
namespace Go.Fen
open Go Go.RowKit Go.Sort Go.Proofs
theorem D7z {P:Program} {f:FuncId} {args:List Value} {Φ:List Pers} {v:Value} (hb:HasBody P f)
  (h:∀ (w:World) (h:Hp),(∀ q ∈ Φ,q.p h)→h.sub w→Calls P f args.toArray w fun e w'=>e=.returned v∧Below w.heap.size w w'):K5 P f args Φ v:=by
 refine ⟨hb,fun w hp hΦ hs ho=>(h w hp hΦ hs).mono fun e w' he=>⟨(),he.1,hp,?_⟩⟩
 have hk:=KeptBut.of_below he.2
 refine ⟨fun q hq=>(by cases hq),fun b o hb=>?_,Hp.le_refl _,fun b hb=>.inl hb,⟨fun e he=>(by cases he),List.nodup_nil⟩,fun e he=>(by cases he),hk,fun d hd=>(by cases hd)⟩
 rw [hk.block b (Hp.lt hs hb) List.not_mem_nil];exact hs b o hb
end Go.Fen
namespace Go.Proofs.YtanighkpfmgnbaaGreatDoor
open Go Go.Fen Go.RowKit Go.Sort
set_option maxRecDepth 100000
def C1y:Go.Shelf.Ren:=⟨fun | 105=>24 | 212=>45 | 99=>46 | 165=>47 | 166=>48 | 170=>49 | 169=>50 | 263=>98 | 264=>99 | 206=>100 | 240=>101 | 241=>102 | 276=>145 | 277=>146 | n=>n,fun | 9=>9 | 3=>3 | 4=>4 | 20=>20 | 0=>0 | 46=>43 | 109=>86 | 5=>5 | 72=>91 | 76=>95 | 51=>39 | 146=>148 | 53=>150 | 148=>151 | 70=>89 | 37=>30 | 75=>94 | 127=>153 | 164=>221 | 80=>98 | n=>n,fun | n=>n⟩
theorem B8u:Go.Proofs.Lays.n105 Tryz.prog C1y where
 mixed:=by kernel_rfl
 f99:=Tryz.func46.trans (congrArg some (by kernel_rfl))
 f105:=Tryz.func24.trans (congrArg some (by kernel_rfl))
 f165:=Tryz.func47.trans (congrArg some (by kernel_rfl))
 f166:=Tryz.func48.trans (congrArg some (by kernel_rfl))
 f169:=Tryz.func50.trans (congrArg some (by kernel_rfl))
 f170:=Tryz.func49.trans (congrArg some (by kernel_rfl))
 f206:=Tryz.func100.trans (congrArg some (by kernel_rfl))
 f212:=Tryz.func45.trans (congrArg some (by kernel_rfl))
 f240:=Tryz.func101.trans (congrArg some (by kernel_rfl))
 f241:=Tryz.func102.trans (congrArg some (by kernel_rfl))
 f263:=Tryz.func98.trans (congrArg some (by kernel_rfl))
 f264:=Tryz.func99.trans (congrArg some (by kernel_rfl))
 f276:=Tryz.func145.trans (congrArg some (by kernel_rfl))
 f277:=Tryz.func146.trans (congrArg some (by kernel_rfl))
 t0:=Tryz.underlying0
 a0:=Tryz.isAgg0
 z0:=Tryz.sizeOf0
 v0:=Tryz.zeroValue0
 t3:=Tryz.underlying3
 a3:=Tryz.isAgg3
 z3:=Tryz.sizeOf3
 v3:=Tryz.zeroValue3
 t4:=Tryz.underlying4
 a4:=Tryz.isAgg4
 z4:=Tryz.sizeOf4
 v4:=Tryz.zeroValue4
 t5:=Tryz.underlying5
 a5:=Tryz.isAgg5
 z5:=Tryz.sizeOf5
 v5:=Tryz.zeroValue5
 t9:=Tryz.underlying9
 a9:=Tryz.isAgg9
 z9:=Tryz.sizeOf9
 v9:=Tryz.zeroValue9
 t20:=Tryz.underlying20
 a20:=Tryz.isAgg20
 z20:=Tryz.sizeOf20
 v20:=Tryz.zeroValue20
 t37:=Tryz.underlying30
 a37:=Tryz.isAgg30
 z37:=Tryz.sizeOf30
 v37:=Tryz.zeroValue30
 t46:=Tryz.underlying43
 a46:=Tryz.isAgg43
 z46:=Tryz.sizeOf43
 v46:=Tryz.zeroValue43
 t51:=Tryz.underlying39
 a51:=Tryz.isAgg39
 z51:=Tryz.sizeOf39
 v51:=Tryz.zeroValue39
 t53:=Tryz.underlying150
 a53:=Tryz.isAgg150
 z53:=Tryz.sizeOf150
 v53:=Tryz.zeroValue150
 t70:=Tryz.underlying89
 a70:=Tryz.isAgg89
 z70:=Tryz.sizeOf89
 v70:=Tryz.zeroValue89
 t72:=Tryz.underlying91
 a72:=Tryz.isAgg91
 z72:=Tryz.sizeOf91
 v72:=Tryz.zeroValue91
 t75:=Tryz.underlying94
 a75:=Tryz.isAgg94
 z75:=Tryz.sizeOf94
 v75:=Tryz.zeroValue94
 t76:=Tryz.underlying95
 a76:=Tryz.isAgg95
 z76:=Tryz.sizeOf95
 v76:=Tryz.zeroValue95
 t109:=Tryz.underlying86
 a109:=Tryz.isAgg86
 z109:=Tryz.sizeOf86
 v109:=Tryz.zeroValue86
 t127:=Tryz.underlying153
 a127:=Tryz.isAgg153
 z127:=Tryz.sizeOf153
 v127:=Tryz.zeroValue153
 t146:=Tryz.underlying148
 a146:=Tryz.isAgg148
 z146:=Tryz.sizeOf148
 v146:=Tryz.zeroValue148
 t148:=Tryz.underlying151
 a148:=Tryz.isAgg151
 z148:=Tryz.sizeOf151
 v148:=Tryz.zeroValue151
 t164:=Tryz.underlying221
 a164:=Tryz.isAgg221
 z164:=Tryz.sizeOf221
 v164:=Tryz.zeroValue221
theorem E1d:Builder.Extra Tryz.prog C1y where
 sizeBuilder:=by kernel_rfl
 liesBuilder:=by kernel_rfl
 t5:=B8u.t5
 a5:=B8u.a5
 z5:=B8u.z5
 v5:=B8u.v5
 infoByte:=by kernel_rfl
 cellsByte:=by kernel_rfl
 sizeByte:=by kernel_rfl
 neB5:=by decide
def B1h (s:List UInt8) (n:Int):List UInt8:=(List.replicate n.toNat s).flatten
theorem C3p (s:List UInt8):∀ n:Nat,Lib.repeatL s n=B1h s n
 | 0=>rfl
 | n+1=>by
  rw [Lib.repeatL,C3p s n]
  show s++(List.replicate n s).flatten=(List.replicate (n+1) s).flatten
  rw [List.replicate_succ,List.flatten_cons]
theorem C1s (s:List UInt8) (n:Int):(B1h s n).length=n.toNat * s.length:=by
 unfold B1h;simp
theorem D9f (s:List UInt8) (n:Int) (h0:0≤n) (hc:n≤140737488355328) (hlen:s.length * n.toNat≤140737488355328):K5 Tryz.prog 24 [sv s,iv n] [] (sv (B1h s n)):=by
 refine D7z ⟨by kernel_rfl⟩ fun w h _ _=>?_
 obtain ⟨c,rfl⟩:∃ c:Nat,n=c:=⟨n.toNat,by omega⟩
 have:=Any.strings_Repeat B8u E1d ⟨s.toArray⟩ c w (by omega) (by show s.toArray.size * c≤_;simpa using hlen)
 refine this.mono ?_
 rintro e w' ⟨rfl,hw⟩
 refine ⟨?_,hw⟩
 show Ending.returned (.string ⟨(Lib.repeatL s c).toArray⟩)=_
 rw [C3p]
end Go.Proofs.YtanighkpfmgnbaaGreatDoor
