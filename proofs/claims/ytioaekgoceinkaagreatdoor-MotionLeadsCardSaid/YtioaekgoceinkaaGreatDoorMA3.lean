import Derived.Lib.Builder
import Derived.Lib.UnsafeStr
import Derived.Laws.Externs
import Derived.WalkKit
import Derived.Shelf.RegionOpenPlain
import Derived.Shelf.Strings.Repeat
import Derived.Test.YtioaekgoceinkaaGreatDoorProg
import Derived.Test.YtioaekgoceinkaaGreatDoorMA2
set_option linter.unusedVariables false
set_option linter.unusedSimpArgs false
namespace Go.Proofs.YtioaekgoceinkaaGreatDoor
open Go Go.Fen Go.RowKit
set_option maxHeartbeats 1000000 in
set_option maxRecDepth 100000 in
theorem C8t (b g cap:Nat) (p:Value) (cur:Array Value) (l:List UInt8) (w:World) (i:l≠[]) (h:w.heap[b]?=some (.cells #[p,.slice (some ⟨g,0,none⟩) l.length cap] 215 (0,0))) (k:w.heap[g]?=some (.cells cur 5 (0,0)))
  (m:l.length≤cap) (f:cap≤maxLen) (q:cur.size=cap) (a:∀ (j:Nat) (x:UInt8),l[j]?=some x→cur[j]?=some (Value.int .u8 (x.toNat:Int))) :
  Calls Tryz.prog 164 #[.pointer (some ⟨b,0,none⟩)] w fun e w'=>e=.returned (.string ⟨l.toArray⟩)∧KeptBut [g] w w':=by
 have r:l.length≠0:=by simpa using i
 have t:w.drew.cell? ⟨b,1,none⟩=some (.slice (some ⟨g,0,none⟩) l.length cap):=by
  have:w.drew.heap[b]?=some (.cells #[p,.slice (some ⟨g,0,none⟩) l.length cap] 215 (0,0)):=h
  rw [Lib.cell_of_heap this];rfl
 have s:(Builtin.unsafeSliceData_ #[67] 282 #[.slice (some ⟨g,0,none⟩) l.length cap]).run Tryz.prog w.drew=.ok (.pointer (some ⟨g,0,none⟩)) w.drew :=
  Lib.run_unsafeSliceData_row _ _ _ _ _ _ opx
 have o:(Builtin.unsafeString_ #[282,3] 9 #[.pointer (some ⟨g,0,none⟩),.int .i64 l.length]).run Tryz.prog w.drew=.ok (.string ⟨l.toArray⟩) (w.drew.freeze ⟨g,0,none⟩ l.length):=by
  refine Lib.run_unsafeString_row w.drew 282 3 9 5 Tryz.underlying282 okl g cur.size (by have c:w.drew.heap[g]?=some (.cells cur 5 (0,0)):=k;simp [World.shape?,c]) l i opx (by unfold maxLen at f;omega) ?_
  intro j x n
  have c:w.drew.heap[g]?=some (.cells cur 5 (0,0)):=k
  rw [Addr.add_lit,Nat.zero_add,Lib.cell_of_heap c]
  exact a j x n
 have d:Tryz.prog.follows .mixedOrders=true:=by kernel_rfl
 go_enter Tryz.func164,Tryz.ntmps164
 go_wp2
 go_region_o
 all_goals (go_wp2;go_ret;exact ⟨rfl,C5m (A7u w) oom _⟩)
set_option maxHeartbeats 2000000 in
set_option maxRecDepth 100000 in
theorem C9u (b:Nat) (p:Value) (w:World) (c:w.heap[b]?=some (.cells #[p,.slice none 0 0] 215 (0,0))) :
  Calls Tryz.prog 164 #[.pointer (some ⟨b,0,none⟩)] w fun e w'=>e=.returned (.string ⟨#[]⟩)∧KeptBut [] w w':=by
 have f:=fun (W:World) (q:Option Addr)=>Lib.run_unsafeString_none (P:=Tryz.prog) W 282 3 9 q
 have g:w.drew.cell? ⟨b,1,none⟩=some (.slice none 0 0):=by
  have:w.drew.heap[b]?=some (.cells #[p,.slice none 0 0] 215 (0,0)):=c
  rw [Lib.cell_of_heap this];rfl
 have d:(Builtin.unsafeSliceData_ #[67] 282 #[.slice none 0 0]).run Tryz.prog w.drew=.ok (.pointer none) w.drew:=rfl
 have a:Tryz.prog.follows .mixedOrders=true:=by kernel_rfl
 go_enter Tryz.func164,Tryz.ntmps164
 go_wp2
 go_region_o
 all_goals (go_wp2;go_ret;exact ⟨rfl,A7u w⟩)
set_option maxHeartbeats 2000000 in
set_option maxRecDepth 100000 in
theorem C4u (b g:Nat) (p:Value) (cur:Array Value) (w:World) (a:w.heap[b]?=some (.cells #[p,.slice (some ⟨g,0,none⟩) 0 0] 215 (0,0))) (j:w.heap[g]?=some (.cells cur 5 (0,0))) :
  Calls Tryz.prog 164 #[.pointer (some ⟨b,0,none⟩)] w fun e w'=>e=.returned (.string ⟨#[]⟩)∧KeptBut [g] w w':=by
 have i:=fun (W:World) (q:Option Addr)=>Lib.run_unsafeString_none (P:=Tryz.prog) W 282 3 9 q
 have f:b<w.heap.size:=by
  rcases Nat.lt_or_ge b w.heap.size with h' | h'
  ·exact h'
  ·simp [Array.getElem?_eq_none h'] at a
 have h:w.drew.cell? ⟨b,1,none⟩=some (.slice (some ⟨g,0,none⟩) 0 0):=by
  have:w.drew.heap[b]?=some (.cells #[p,.slice (some ⟨g,0,none⟩) 0 0] 215 (0,0)):=a
  rw [Lib.cell_of_heap this];rfl
 have l:(Builtin.unsafeSliceData_ #[67] 282 #[.slice (some ⟨g,0,none⟩) 0 0]).run Tryz.prog w.drew=.ok (.pointer (some ⟨w.drew.heap.size,0,none⟩)) (w.drew.alloc (.view ⟨g,0,none⟩ 5)) :=
  Lib.run_unsafeSliceData_zero w.drew _ _ 5 Tryz.underlying282 ⟨g,0,none⟩ 0 (5,cur.size) (by have d:w.drew.heap[g]?=some (.cells cur 5 (0,0)):=j;simp [World.shape?,d])
 have k:(w.drew.alloc (.view ⟨g,0,none⟩ 5)).cell? ⟨b,1,none⟩=some (.slice (some ⟨g,0,none⟩) 0 0):=by
  have:(w.drew.alloc (.view ⟨g,0,none⟩ 5)).heap[b]?=_:=(Lib.alloc_old w.drew _ b f).trans a
  rw [Lib.cell_of_heap this];rfl
 have m:(w.alloc (.view ⟨g,0,none⟩ 5)).drew.cell? ⟨b,1,none⟩=some (.slice (some ⟨g,0,none⟩) 0 0):=k
 have c0:w.cell? ⟨b,1,none⟩=some (.slice (some ⟨g,0,none⟩) 0 0):=h
 have c:Tryz.prog.follows .mixedOrders=true:=by kernel_rfl
 go_enter Tryz.func164,Tryz.ntmps164
 go_wp2
 go_region_o
 all_goals (go_wp2;go_ret;exact ⟨rfl,(A7u w).alloc _⟩)
set_option maxHeartbeats 2000000 in
set_option maxRecDepth 100000 in
theorem C8g (b g cap:Nat) (p:Value) (w:World) (a:cap≠0) (d:w.heap[b]?=some (.cells #[p,.slice (some ⟨g,0,none⟩) 0 cap] 215 (0,0))) :
  Calls Tryz.prog 164 #[.pointer (some ⟨b,0,none⟩)] w fun e w'=>e=.returned (.string ⟨#[]⟩)∧KeptBut [g] w w':=by
 have h:=fun (W:World) (q:Option Addr)=>Lib.run_unsafeString_none (P:=Tryz.prog) W 282 3 9 q
 have i:w.drew.cell? ⟨b,1,none⟩=some (.slice (some ⟨g,0,none⟩) 0 cap):=by
  have:w.drew.heap[b]?=some (.cells #[p,.slice (some ⟨g,0,none⟩) 0 cap] 215 (0,0)):=d
  rw [Lib.cell_of_heap this];rfl
 have f:(Builtin.unsafeSliceData_ #[67] 282 #[.slice (some ⟨g,0,none⟩) 0 cap]).run Tryz.prog w.drew=.ok (.pointer (some ⟨g,0,none⟩)) w.drew :=
  Lib.run_unsafeSliceData_row _ _ _ _ _ _ a
 clear a
 have c:Tryz.prog.follows .mixedOrders=true:=by kernel_rfl
 go_enter Tryz.func164,Tryz.ntmps164
 go_wp2
 go_region_o
 all_goals (go_wp2;go_ret;exact ⟨rfl,A7u w⟩)
theorem D6c {M N:List Nat} {w w':World} (h:KeptBut M w w') (a:∀ b ∈ M,b ∈ N):KeptBut N w w':=⟨h.1,h.2,h.3,h.4,fun k c e=>h.block k c (fun d=>e (a k d))⟩
theorem D4t {a:Nat×Obj} {L0:Fen.Own} {h:Hp} {w w':World} {M:List Nat} (s:h.sub w) (i:A0u (a::L0) h w) (t:∀ b ∈ M,b ∈ L0.map Prod.fst) (r:KeptBut M w w'):StW (cx w h ((a::L0).map Prod.fst)) [a] [] w':=by
 have c:KeptBut ((a::L0).map Prod.fst) w w':=D6c r (fun b p=>List.mem_cons_of_mem _ (t b p))
 have f:=i.1 a (List.mem_cons_self ..)
 have g:a.1 ∉ L0.map Prod.fst:=(List.nodup_cons.1 i.2).1
 refine ⟨h,⟨fun q v=>(by cases v),fun b o e=>?_,Hp.le_refl _,fun b p=>.inl p,⟨fun e l=>?_,List.nodup_cons.2 ⟨List.not_mem_nil,List.nodup_nil⟩⟩,fun e l=>?_,c,fun d x=>by cases x⟩⟩
 ·have j:b ∉ (a::L0).map Prod.fst:=fun m=>by
   obtain ⟨u,k,rfl⟩:=List.mem_map.1 m
   rw [(i.1 u k).2] at e
   cases e
  rw [c.block b (Hp.lt s e) j]
  exact s b o e
 ·rw [List.mem_singleton.1 l]
  refine ⟨?_,f.2⟩
  have n:a.1<w.heap.size:=by
   rcases Nat.lt_or_ge a.1 w.heap.size with h' | h'
   ·exact h'
   ·rw [Array.getElem?_eq_none h'] at f;cases f.1
  rw [r.block a.1 n (fun m=>g (t _ m))]
  exact f.1
 ·rw [List.mem_singleton.1 l]
  exact .inl (List.mem_map_of_mem (List.mem_cons_self ..))
theorem D5t (b:Nat) (p:Value) (l:List UInt8) (r:VR) (m:VOk 1 l.length r):Con Tryz.prog 164 [pt b 0] (bx b [p,vv r l.length] 215::(vo cU8 5 r l++[])) [] Unit (fun _=>sv l) (fun _=>[bx b [p,vv r l.length] 215]) (fun _=>[]):=by
 refine ⟨⟨by kernel_rfl⟩,fun w h hq hs s=>?_⟩
 have o:=(s.1 (bx b [p,vv r l.length] 215) oom).1
 simp only at o
 obtain ⟨q,k,j⟩:=r
 cases q with
 | none =>
  have h0:l.length=0∧k=0:=m
  have hl:l=[]:=List.eq_nil_of_length_eq_zero h0.1
  obtain ⟨_,c⟩:=h0
  subst hl c
  refine (C9u b p w o).mono ?_
  rintro e w' ⟨u,c⟩
  exact ⟨(),u,D4t (M:=[]) hs s (fun _ h=>by cases h) c⟩
 | some g =>
  have d:l.length * 1+j.length=k * 1∧l.length≤k∧k≤maxLen:=m
  have v:=(s.1 (bx g (l.flatMap cU8++j) 5) (by simp [vo])).1
  simp only at v
  have n:(l.flatMap cU8).length=l.length:=by rw [F5 (sz:=1) (fun _=>rfl)];omega
  have z:(Calls Tryz.prog 164 #[pt b 0] w fun e w'=>e=.returned (.string ⟨l.toArray⟩)∧KeptBut [g] w w')→Calls Tryz.prog 164 #[pt b 0] w fun e w'=>∃ x:Unit,e=.returned (sv l)∧StW (cx w h ((bx b [p,vv ⟨some g,k,j⟩ l.length] 215::(vo cU8 5 ⟨some g,k,j⟩ l++[])).map Prod.fst)) [bx b [p,vv ⟨some g,k,j⟩ l.length] 215] [] w':=fun h2=>h2.mono (by
   rintro e w' ⟨u,c⟩
   exact ⟨(),u,D4t (M:=[g]) hs s (fun x hx=>by rcases List.mem_singleton.1 hx with rfl;exact List.mem_map_of_mem (f:=Prod.fst) (a:=bx x (l.flatMap cU8++j) 5) (by simp [vo])) c⟩)
  refine z ?_
  cases l with
  | nil =>
   by_cases c:k=0
   ·subst c
    exact C4u b g p _ w o v
   ·exact C8g b g k p w c o
  | cons x l =>
   refine C8t b g k p _ (x::l) w oom o v d.2.1 d.2.2 (by simp only [List.size_toArray,List.length_append,n];omega) ?_
   intro i y t
   have hi:=(List.getElem?_eq_some_iff.1 t).1
   rw [List.getElem?_toArray,List.getElem?_append_left (by rw [n];exact hi),C9m _ _ hi]
   rw [List.getElem?_eq_getElem hi] at t
   simp only [Option.some.injEq] at t
   rw [t]
set_option maxHeartbeats 1000000 in
set_option maxRecDepth 100000 in
theorem E2v (b:Nat) (p:Value) (q:Option Addr) (n k:Nat) (w:World) (a:w.heap[b]?=some (.cells #[p,.slice q n k] 215 (0,0))) :
  Calls Tryz.prog 255 #[.pointer (some ⟨b,0,none⟩)] w fun e w'=>e=.returned (.int .i64 n)∧w'=w:=by
 have c:w.cell? ⟨b,1,none⟩=some (.slice q n k):=by rw [Lib.cell_of_heap a];rfl
 go_enter Tryz.func255,Tryz.ntmps255
 go_wp2
 go_ret
 exact ⟨rfl,rfl⟩
theorem E2r (b:Nat) (p:Value) (q:Option Addr) (n k:Nat):Con Tryz.prog 255 [pt b 0] [bx b [p,.slice q n k] 215] [] Unit (fun _=>iv n) (fun _=>[bx b [p,.slice q n k] 215]) (fun _=>[]):=by
 refine ⟨⟨by kernel_rfl⟩,fun w h f d a=>?_⟩
 have c:=(a.1 _ (List.mem_singleton.2 rfl)).1
 simp only at c
 refine (E2v b p q n k w c).mono ?_
 rintro e w' ⟨rfl,rfl⟩
 exact ⟨(),rfl,st0 d a⟩
end Go.Proofs.YtioaekgoceinkaaGreatDoor
set_option linter.unusedVariables false
set_option linter.unusedSimpArgs false
namespace Go.Fen
open Go Go.RowKit Go.Sort Go.Proofs
theorem D5o {P:Program} {f:FuncId} {args:List Value} {Φ:List Pers} {v:Value} (c:HasBody P f)
  (h:∀ (w:World) (h:Hp),(∀ q ∈ Φ,q.p h)→h.sub w→Calls P f args.toArray w fun e w'=>e=.returned v∧Below w.heap.size w w'):G3 P f args Φ v:=by
 refine ⟨c,fun w hp hΦ hs ho=>(h w hp hΦ hs).mono fun e w' a=>⟨(),a.1,hp,?_⟩⟩
 have g:=KeptBut.of_below a.2
 refine ⟨fun q i=>(by cases i),fun b o c=>?_,Hp.le_refl _,fun b c=>.inl c,⟨fun e a=>(by cases a),List.nodup_nil⟩,fun e a=>(by cases a),g,fun d j=>(by cases j)⟩
 rw [g.block b (Hp.lt hs c) List.not_mem_nil];exact hs b o c
end Go.Fen
namespace Go.Proofs.YtioaekgoceinkaaGreatDoor
open Go Go.Fen Go.RowKit Go.Sort
set_option maxRecDepth 100000
def C1u:Go.Shelf.Ren:=⟨fun | 105=>253 | 212=>240 | 99=>289 | 165=>290 | 166=>163 | 170=>255 | 169=>164 | 263=>280 | 264=>281 | 206=>319 | 240=>239 | 241=>320 | 276=>279 | 277=>330 | n=>n,fun | 9=>9 | 3=>3 | 4=>4 | 20=>20 | 0=>0 | 46=>210 | 109=>283 | 5=>5 | 72=>215 | 76=>221 | 51=>326 | 146=>327 | 53=>329 | 148=>330 | 70=>213 | 37=>67 | 75=>220 | 127=>282 | 164=>324 | 80=>160 | n=>n,fun | n=>n⟩
theorem B9j:Go.Proofs.Lays.n105 Tryz.prog C1u where
 mixed:=by kernel_rfl
 f99:=Tryz.func289.trans (congrArg some okl)
 f105:=Tryz.func253.trans (congrArg some okl)
 f165:=Tryz.func290.trans (congrArg some okl)
 f166:=Tryz.func163.trans (congrArg some okl)
 f169:=Tryz.func164.trans (congrArg some okl)
 f170:=Tryz.func255.trans (congrArg some okl)
 f206:=Tryz.func319.trans (congrArg some okl)
 f212:=Tryz.func240.trans (congrArg some okl)
 f240:=Tryz.func239.trans (congrArg some okl)
 f241:=Tryz.func320.trans (congrArg some okl)
 f263:=Tryz.func280.trans (congrArg some okl)
 f264:=Tryz.func281.trans (congrArg some okl)
 f276:=Tryz.func279.trans (congrArg some okl)
 f277:=Tryz.func330.trans (congrArg some okl)
 t0:=Tryz.underlying0
 a0:=Tryz.isAgg0
 z0:=Tryz.sizeOf0
 v0:=Tryz.zeroValue0
 t3:=Tryz.underlying3
 a3:=Tryz.isAgg3
 z3:=Tryz.sizeOf3
 v3:=Tryz.zeroValue3
 t4:=Tryz.underlying4
 a4:=Tryz.isAgg4
 z4:=Tryz.sizeOf4
 v4:=Tryz.zeroValue4
 t5:=Tryz.underlying5
 a5:=Tryz.isAgg5
 z5:=Tryz.sizeOf5
 v5:=Tryz.zeroValue5
 t9:=Tryz.underlying9
 a9:=Tryz.isAgg9
 z9:=Tryz.sizeOf9
 v9:=Tryz.zeroValue9
 t20:=Tryz.underlying20
 a20:=Tryz.isAgg20
 z20:=Tryz.sizeOf20
 v20:=Tryz.zeroValue20
 t37:=Tryz.underlying67
 a37:=Tryz.isAgg67
 z37:=Tryz.sizeOf67
 v37:=Tryz.zeroValue67
 t46:=Tryz.underlying210
 a46:=Tryz.isAgg210
 z46:=Tryz.sizeOf210
 v46:=Tryz.zeroValue210
 t51:=Tryz.underlying326
 a51:=Tryz.isAgg326
 z51:=Tryz.sizeOf326
 v51:=Tryz.zeroValue326
 t53:=Tryz.underlying329
 a53:=Tryz.isAgg329
 z53:=Tryz.sizeOf329
 v53:=Tryz.zeroValue329
 t70:=Tryz.underlying213
 a70:=Tryz.isAgg213
 z70:=Tryz.sizeOf213
 v70:=Tryz.zeroValue213
 t72:=Tryz.underlying215
 a72:=Tryz.isAgg215
 z72:=Tryz.sizeOf215
 v72:=Tryz.zeroValue215
 t75:=Tryz.underlying220
 a75:=Tryz.isAgg220
 z75:=Tryz.sizeOf220
 v75:=Tryz.zeroValue220
 t76:=Tryz.underlying221
 a76:=Tryz.isAgg221
 z76:=Tryz.sizeOf221
 v76:=Tryz.zeroValue221
 t109:=Tryz.underlying283
 a109:=Tryz.isAgg283
 z109:=Tryz.sizeOf283
 v109:=Tryz.zeroValue283
 t127:=Tryz.underlying282
 a127:=Tryz.isAgg282
 z127:=Tryz.sizeOf282
 v127:=Tryz.zeroValue282
 t146:=Tryz.underlying327
 a146:=Tryz.isAgg327
 z146:=Tryz.sizeOf327
 v146:=Tryz.zeroValue327
 t148:=Tryz.underlying330
 a148:=Tryz.isAgg330
 z148:=Tryz.sizeOf330
 v148:=Tryz.zeroValue330
 t164:=Tryz.underlying324
 a164:=Tryz.isAgg324
 z164:=Tryz.sizeOf324
 v164:=Tryz.zeroValue324
theorem D6t:Builder.Extra Tryz.prog C1u where
 sizeBuilder:=by kernel_rfl
 liesBuilder:=by kernel_rfl
 t5:=B9j.t5
 a5:=B9j.a5
 z5:=B9j.z5
 v5:=B9j.v5
 infoByte:=by kernel_rfl
 cellsByte:=by kernel_rfl
 sizeByte:=by kernel_rfl
 neB5:=by decide
def B3i (s:List UInt8) (n:Int):List UInt8:=(List.replicate n.toNat s).flatten
theorem C4d (s:List UInt8):∀ n:Nat,Lib.repeatL s n=B3i s n
 | 0=>rfl
 | n+1=>by
  rw [Lib.repeatL,C4d s n]
  show s++(List.replicate n s).flatten=(List.replicate (n+1) s).flatten
  rw [List.replicate_succ,List.flatten_cons]
theorem C2j (s:List UInt8) (n:Int):(B3i s n).length=n.toNat * s.length:=by
 unfold B3i;simp
theorem D7p (s:List UInt8) (n:Int) (f:0≤n) (d:n≤140737488355328) (a:s.length * n.toNat≤140737488355328):G3 Tryz.prog 253 [sv s,iv n] [] (sv (B3i s n)):=by
 refine D5o ⟨by kernel_rfl⟩ fun w h _ _=>?_
 obtain ⟨c,rfl⟩:∃ c:Nat,n=c:=⟨n.toNat,by omega⟩
 have:=Any.strings_Repeat B9j D6t ⟨s.toArray⟩ c w opx (by show s.toArray.size * c≤_;simpa using a)
 refine this.mono ?_
 rintro e w' ⟨rfl,b⟩
 refine ⟨?_,b⟩
 show Ending.returned (.string ⟨(Lib.repeatL s c).toArray⟩)=_
 rw [C4d]
end Go.Proofs.YtioaekgoceinkaaGreatDoor
