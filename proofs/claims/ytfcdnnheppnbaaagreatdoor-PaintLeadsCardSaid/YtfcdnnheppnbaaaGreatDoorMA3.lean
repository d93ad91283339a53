import Derived.Lib.Builder
import Derived.Lib.UnsafeStr
import Derived.Laws.Externs
import Derived.WalkKit
import Derived.Shelf.RegionOpenPlain
import Derived.Shelf.Strings.Repeat
import Derived.Test.YtfcdnnheppnbaaaGreatDoorProg
import Derived.Test.YtfcdnnheppnbaaaGreatDoorMA2
set_option linter.unusedVariables false
set_option linter.unusedSimpArgs false
set_option linter.unnecessarySimpa false
set_option maxRecDepth 100000
namespace Go.Proofs.YtfcdnnheppnbaaaGreatDoor
open Go Go.Fen Go.RowKit
set_option maxHeartbeats 1000000 in
theorem D3h (b g cap:Nat) (p:Value) (cur:Array Value) (l:List UInt8) (w:World) (i:l≠[]) (f:w.heap[b]?=some (.cells #[p,.slice (some ⟨g,0,none⟩) l.length cap] 270 (0,0))) (k:w.heap[g]?=some (.cells cur 5 (0,0)))
  (m:l.length≤cap) (d:cap≤maxLen) (o:cur.size=cap) (a:∀ (j:Nat) (x:UInt8),l[j]?=some x→cur[j]?=some (Value.int .u8 (x.toNat:Int))) :
  Calls Tryz.prog 232 #[.pointer (some ⟨b,0,none⟩)] w fun e w'=>e=.returned (.string ⟨l.toArray⟩)∧KeptBut [g] w w':=by
 have q:l.length≠0:=by simpa using i
 have c1:w.drew.cell? ⟨b,1,none⟩=some (.slice (some ⟨g,0,none⟩) l.length cap):=by
  have:w.drew.heap[b]?=some (.cells #[p,.slice (some ⟨g,0,none⟩) l.length cap] 270 (0,0)):=f
  rw [Lib.cell_of_heap this];rfl
 have s:(Builtin.unsafeSliceData_ #[103] 326 #[.slice (some ⟨g,0,none⟩) l.length cap]).run Tryz.prog w.drew=.ok (.pointer (some ⟨g,0,none⟩)) w.drew :=
  Lib.run_unsafeSliceData_row _ _ _ _ _ _ opx
 have r:(Builtin.unsafeString_ #[326,3] 9 #[.pointer (some ⟨g,0,none⟩),.int .i64 l.length]).run Tryz.prog w.drew=.ok (.string ⟨l.toArray⟩) (w.drew.freeze ⟨g,0,none⟩ l.length):=by
  refine Lib.run_unsafeString_row w.drew 326 3 9 5 Tryz.underlying326 oki g cur.size (by have c:w.drew.heap[g]?=some (.cells cur 5 (0,0)):=k;simp [World.shape?,c]) l i opx (by unfold maxLen at d;omega) ?_
  intro j x n
  have c:w.drew.heap[g]?=some (.cells cur 5 (0,0)):=k
  rw [Addr.add_lit,Nat.zero_add,Lib.cell_of_heap c]
  exact a j x n
 have h:Tryz.prog.follows .mixedOrders=true:=by kernel_rfl
 go_enter Tryz.func232,Tryz.ntmps232
 go_wp2
 go_region_o
 all_goals (go_wp2;go_ret;exact ⟨rfl,C9w (B0t w) oom _⟩)
set_option maxHeartbeats 2000000 in
theorem D7f (b:Nat) (p:Value) (w:World) (a:w.heap[b]?=some (.cells #[p,.slice none 0 0] 270 (0,0))) :
  Calls Tryz.prog 232 #[.pointer (some ⟨b,0,none⟩)] w fun e w'=>e=.returned (.string ⟨#[]⟩)∧KeptBut [] w w':=by
 have d:=fun (W:World) (q:Option Addr)=>Lib.run_unsafeString_none (P:=Tryz.prog) W 326 3 9 q
 have c1:w.drew.cell? ⟨b,1,none⟩=some (.slice none 0 0):=by
  have:w.drew.heap[b]?=some (.cells #[p,.slice none 0 0] 270 (0,0)):=a
  rw [Lib.cell_of_heap this];rfl
 have f:(Builtin.unsafeSliceData_ #[103] 326 #[.slice none 0 0]).run Tryz.prog w.drew=.ok (.pointer none) w.drew:=rfl
 have c:Tryz.prog.follows .mixedOrders=true:=by kernel_rfl
 go_enter Tryz.func232,Tryz.ntmps232
 go_wp2
 go_region_o
 all_goals (go_wp2;go_ret;exact ⟨rfl,B0t w⟩)
set_option maxHeartbeats 2000000 in
theorem C9e (b g:Nat) (p:Value) (cur:Array Value) (w:World) (a:w.heap[b]?=some (.cells #[p,.slice (some ⟨g,0,none⟩) 0 0] 270 (0,0))) (j:w.heap[g]?=some (.cells cur 5 (0,0))) :
  Calls Tryz.prog 232 #[.pointer (some ⟨b,0,none⟩)] w fun e w'=>e=.returned (.string ⟨#[]⟩)∧KeptBut [g] w w':=by
 have h:=fun (W:World) (q:Option Addr)=>Lib.run_unsafeString_none (P:=Tryz.prog) W 326 3 9 q
 have d:b<w.heap.size:=by
  rcases Nat.lt_or_ge b w.heap.size with h' | h'
  ·exact h'
  ·simp [Array.getElem?_eq_none h'] at a
 have c1:w.drew.cell? ⟨b,1,none⟩=some (.slice (some ⟨g,0,none⟩) 0 0):=by
  have:w.drew.heap[b]?=some (.cells #[p,.slice (some ⟨g,0,none⟩) 0 0] 270 (0,0)):=a
  rw [Lib.cell_of_heap this];rfl
 have i:(Builtin.unsafeSliceData_ #[103] 326 #[.slice (some ⟨g,0,none⟩) 0 0]).run Tryz.prog w.drew=.ok (.pointer (some ⟨w.drew.heap.size,0,none⟩)) (w.drew.alloc (.view ⟨g,0,none⟩ 5)) :=
  Lib.run_unsafeSliceData_zero w.drew _ _ 5 Tryz.underlying326 ⟨g,0,none⟩ 0 (5,cur.size) (by have c:w.drew.heap[g]?=some (.cells cur 5 (0,0)):=j;simp [World.shape?,c])
 have c2:(w.drew.alloc (.view ⟨g,0,none⟩ 5)).cell? ⟨b,1,none⟩=some (.slice (some ⟨g,0,none⟩) 0 0):=by
  have:(w.drew.alloc (.view ⟨g,0,none⟩ 5)).heap[b]?=_:=(Lib.alloc_old w.drew _ b d).trans a
  rw [Lib.cell_of_heap this];rfl
 have k:(w.alloc (.view ⟨g,0,none⟩ 5)).drew.cell? ⟨b,1,none⟩=some (.slice (some ⟨g,0,none⟩) 0 0):=c2
 have c0:w.cell? ⟨b,1,none⟩=some (.slice (some ⟨g,0,none⟩) 0 0):=c1
 have f:Tryz.prog.follows .mixedOrders=true:=by kernel_rfl
 go_enter Tryz.func232,Tryz.ntmps232
 go_wp2
 go_region_o
 all_goals (go_wp2;go_ret;exact ⟨rfl,(B0t w).alloc _⟩)
set_option maxHeartbeats 2000000 in
theorem D4v (b g cap:Nat) (p:Value) (w:World) (a:cap≠0) (c:w.heap[b]?=some (.cells #[p,.slice (some ⟨g,0,none⟩) 0 cap] 270 (0,0))) :
  Calls Tryz.prog 232 #[.pointer (some ⟨b,0,none⟩)] w fun e w'=>e=.returned (.string ⟨#[]⟩)∧KeptBut [g] w w':=by
 have f:=fun (W:World) (q:Option Addr)=>Lib.run_unsafeString_none (P:=Tryz.prog) W 326 3 9 q
 have c1:w.drew.cell? ⟨b,1,none⟩=some (.slice (some ⟨g,0,none⟩) 0 cap):=by
  have:w.drew.heap[b]?=some (.cells #[p,.slice (some ⟨g,0,none⟩) 0 cap] 270 (0,0)):=c
  rw [Lib.cell_of_heap this];rfl
 have h:(Builtin.unsafeSliceData_ #[103] 326 #[.slice (some ⟨g,0,none⟩) 0 cap]).run Tryz.prog w.drew=.ok (.pointer (some ⟨g,0,none⟩)) w.drew :=
  Lib.run_unsafeSliceData_row _ _ _ _ _ _ a
 clear a
 have d:Tryz.prog.follows .mixedOrders=true:=by kernel_rfl
 go_enter Tryz.func232,Tryz.ntmps232
 go_wp2
 go_region_o
 all_goals (go_wp2;go_ret;exact ⟨rfl,B0t w⟩)
theorem E6r {M N:List Nat} {w w':World} (h:KeptBut M w w') (c:∀ b ∈ M,b ∈ N):KeptBut N w w':=⟨h.1,h.2,h.3,h.4,fun k d a=>h.block k d (fun e=>a (c k e))⟩
theorem E1z {a:Nat×Obj} {L0:Fen.Own} {h:Hp} {w w':World} {M:List Nat} (s:h.sub w) (j:A2i (a::L0) h w) (r:∀ b ∈ M,b ∈ L0.map Prod.fst) (t:KeptBut M w w'):cC (cx w h ((a::L0).map Prod.fst)) [a] [] w':=by
 have c:KeptBut ((a::L0).map Prod.fst) w w':=E6r t (fun b g=>List.mem_cons_of_mem _ (r b g))
 have f:=j.1 a (List.mem_cons_self ..)
 have l:a.1 ∉ L0.map Prod.fst:=(List.nodup_cons.1 j.2).1
 refine ⟨h,⟨fun q x=>(by cases x),fun b o e=>?_,Hp.le_refl _,fun b g=>.inl g,⟨fun e n=>?_,List.nodup_cons.2 ⟨List.not_mem_nil,List.nodup_nil⟩⟩,fun e n=>?_,c,fun d u=>by cases u⟩⟩
 ·have i:b ∉ (a::L0).map Prod.fst:=fun p=>by
   obtain ⟨v,k,rfl⟩:=List.mem_map.1 p
   rw [(j.1 v k).2] at e
   cases e
  rw [c.block b (Hp.lt s e) i]
  exact s b o e
 ·rw [List.mem_singleton.1 n]
  refine ⟨?_,f.2⟩
  have m:a.1<w.heap.size:=by
   rcases Nat.lt_or_ge a.1 w.heap.size with h' | h'
   ·exact h'
   ·rw [Array.getElem?_eq_none h'] at f;cases f.1
  rw [t.block a.1 m (fun p=>l (r _ p))]
  exact f.1
 ·rw [List.mem_singleton.1 n]
  exact .inl (List.mem_map_of_mem (List.mem_cons_self ..))
theorem E4i (b:Nat) (p:Value) (l:List UInt8) (r:VR) (o:bR 1 l.length r):cI Tryz.prog 232 [pt b 0] (bx b [p,vv r l.length] 270::(vo cG 5 r l++[])) [] Unit (fun _=>sv l) (fun _=>[bx b [p,vv r l.length] 270]) (fun _=>[]):=by
 refine ⟨⟨by kernel_rfl⟩,fun w h hq hs s=>?_⟩
 have m:=(s.1 (bx b [p,vv r l.length] 270) oom).1
 simp only at m
 obtain ⟨q,k,j⟩:=r
 cases q with
 | none =>
  have h0:l.length=0∧k=0:=o
  have hl:l=[]:=List.eq_nil_of_length_eq_zero h0.1
  obtain ⟨_,d⟩:=h0
  subst hl d
  refine (D7f b p w m).mono ?_
  rintro e w' ⟨v,d⟩
  exact ⟨(),v,E1z (M:=[]) hs s (fun _ h=>by cases h) d⟩
 | some g =>
  have c:l.length * 1+j.length=k * 1∧l.length≤k∧k≤maxLen:=o
  have z:=(s.1 (bx g (l.flatMap cG++j) 5) olg).1
  simp only at z
  have n:(l.flatMap cG).length=l.length:=by rw [G4 (sz:=1) (fun _=>rfl)];omega
  have a0:(Calls Tryz.prog 232 #[pt b 0] w fun e w'=>e=.returned (.string ⟨l.toArray⟩)∧KeptBut [g] w w')→Calls Tryz.prog 232 #[pt b 0] w fun e w'=>∃ x:Unit,e=.returned (sv l)∧cC (cx w h ((bx b [p,vv ⟨some g,k,j⟩ l.length] 270::(vo cG 5 ⟨some g,k,j⟩ l++[])).map Prod.fst)) [bx b [p,vv ⟨some g,k,j⟩ l.length] 270] [] w':=fun h2=>h2.mono (by
   rintro e w' ⟨v,d⟩
   exact ⟨(),v,E1z (M:=[g]) hs s (fun x hx=>by rcases List.mem_singleton.1 hx with rfl;exact List.mem_map_of_mem (f:=Prod.fst) (a:=bx x (l.flatMap cG++j) 5) olg) d⟩)
  refine a0 ?_
  cases l with
  | nil =>
   by_cases d:k=0
   ·subst d
    exact C9e b g p _ w m z
   ·exact D4v b g k p w d m
  | cons x l =>
   refine D3h b g k p _ (x::l) w oom m z c.2.1 c.2.2 (by simp only [List.size_toArray,List.length_append,n];omega) ?_
   intro i y t
   have u:=(List.getElem?_eq_some_iff.1 t).1
   rw [List.getElem?_toArray,List.getElem?_append_left (by rw [n];exact u),D3y _ _ u]
   rw [List.getElem?_eq_getElem u] at t
   simp only [Option.some.injEq] at t
   rw [t]
set_option maxHeartbeats 1000000 in
theorem F4k (b:Nat) (p:Value) (q:Option Addr) (n k:Nat) (w:World) (a:w.heap[b]?=some (.cells #[p,.slice q n k] 270 (0,0))) :
  Calls Tryz.prog 247 #[.pointer (some ⟨b,0,none⟩)] w fun e w'=>e=.returned (.int .i64 n)∧w'=w:=by
 have c1:w.cell? ⟨b,1,none⟩=some (.slice q n k):=by rw [Lib.cell_of_heap a];rfl
 go_enter Tryz.func247,Tryz.ntmps247
 go_wp2
 go_ret
 exact ⟨rfl,rfl⟩
theorem F1r (b:Nat) (p:Value) (q:Option Addr) (n k:Nat):cI Tryz.prog 247 [pt b 0] [bx b [p,.slice q n k] 270] [] Unit (fun _=>iv n) (fun _=>[bx b [p,.slice q n k] 270]) (fun _=>[]):=by
 refine ⟨⟨by kernel_rfl⟩,fun w h f d c=>?_⟩
 have a:=(c.1 _ (List.mem_singleton.2 rfl)).1
 simp only at a
 refine (F4k b p q n k w a).mono ?_
 rintro e w' ⟨rfl,rfl⟩
 exact ⟨(),rfl,st0 d c⟩
end Go.Proofs.YtfcdnnheppnbaaaGreatDoor
namespace Go.Fen
open Go Go.RowKit Go.Sort Go.Proofs
theorem E3z {P:Program} {f:FuncId} {args:List Value} {Φ:List Pers} {v:Value} (a:HasBody P f)
  (h:∀ (w:World) (h:Hp),(∀ q ∈ Φ,q.p h)→h.sub w→Calls P f args.toArray w fun e w'=>e=.returned v∧Below w.heap.size w w'):J5 P f args Φ v:=by
 refine ⟨a,fun w hp hΦ hs ho=>(h w hp hΦ hs).mono fun e w' c=>⟨(),c.1,hp,?_⟩⟩
 have g:=KeptBut.of_below c.2
 refine ⟨fun q j=>(by cases j),fun b o a=>?_,Hp.le_refl _,fun b a=>.inl a,⟨fun e c=>(by cases c),List.nodup_nil⟩,fun e c=>(by cases c),g,fun d i=>(by cases i)⟩
 rw [g.block b (Hp.lt hs a) List.not_mem_nil];exact hs b o a
end Go.Fen
namespace Go.Proofs.YtfcdnnheppnbaaaGreatDoor
open Go Go.Fen Go.RowKit Go.Sort
def C6y:Go.Shelf.Ren:=⟨fun | 105=>245 | 212=>233 | 99=>286 | 165=>287 | 166=>231 | 170=>247 | 169=>232 | 263=>278 | 264=>279 | 206=>320 | 240=>277 | 241=>321 | 276=>311 | 277=>331 | n=>n,fun | 9=>9 | 3=>3 | 4=>4 | 20=>20 | 0=>0 | 46=>213 | 109=>278 | 5=>5 | 72=>270 | 76=>276 | 51=>327 | 146=>328 | 53=>330 | 148=>331 | 70=>268 | 37=>103 | 75=>275 | 127=>326 | 164=>353 | 80=>158 | n=>n,fun | n=>n⟩
theorem C4e:Go.Proofs.Lays.n105 Tryz.prog C6y where
 mixed:=by kernel_rfl
 f99:=Tryz.func286.trans (congrArg some oki)
 f105:=Tryz.func245.trans (congrArg some oki)
 f165:=Tryz.func287.trans (congrArg some oki)
 f166:=Tryz.func231.trans (congrArg some oki)
 f169:=Tryz.func232.trans (congrArg some oki)
 f170:=Tryz.func247.trans (congrArg some oki)
 f206:=Tryz.func320.trans (congrArg some oki)
 f212:=Tryz.func233.trans (congrArg some oki)
 f240:=Tryz.func277.trans (congrArg some oki)
 f241:=Tryz.func321.trans (congrArg some oki)
 f263:=Tryz.func278.trans (congrArg some oki)
 f264:=Tryz.func279.trans (congrArg some oki)
 f276:=Tryz.func311.trans (congrArg some oki)
 f277:=Tryz.func331.trans (congrArg some oki)
 t0:=Tryz.underlying0
 a0:=Tryz.isAgg0
 z0:=Tryz.sizeOf0
 v0:=Tryz.zeroValue0
 t3:=Tryz.underlying3
 a3:=Tryz.isAgg3
 z3:=Tryz.sizeOf3
 v3:=Tryz.zeroValue3
 t4:=Tryz.underlying4
 a4:=Tryz.isAgg4
 z4:=Tryz.sizeOf4
 v4:=Tryz.zeroValue4
 t5:=Tryz.underlying5
 a5:=Tryz.isAgg5
 z5:=Tryz.sizeOf5
 v5:=Tryz.zeroValue5
 t9:=Tryz.underlying9
 a9:=Tryz.isAgg9
 z9:=Tryz.sizeOf9
 v9:=Tryz.zeroValue9
 t20:=Tryz.underlying20
 a20:=Tryz.isAgg20
 z20:=Tryz.sizeOf20
 v20:=Tryz.zeroValue20
 t37:=Tryz.underlying103
 a37:=Tryz.isAgg103
 z37:=Tryz.sizeOf103
 v37:=Tryz.zeroValue103
 t46:=Tryz.underlying213
 a46:=Tryz.isAgg213
 z46:=Tryz.sizeOf213
 v46:=Tryz.zeroValue213
 t51:=Tryz.underlying327
 a51:=Tryz.isAgg327
 z51:=Tryz.sizeOf327
 v51:=Tryz.zeroValue327
 t53:=Tryz.underlying330
 a53:=Tryz.isAgg330
 z53:=Tryz.sizeOf330
 v53:=Tryz.zeroValue330
 t70:=Tryz.underlying268
 a70:=Tryz.isAgg268
 z70:=Tryz.sizeOf268
 v70:=Tryz.zeroValue268
 t72:=Tryz.underlying270
 a72:=Tryz.isAgg270
 z72:=Tryz.sizeOf270
 v72:=Tryz.zeroValue270
 t75:=Tryz.underlying275
 a75:=Tryz.isAgg275
 z75:=Tryz.sizeOf275
 v75:=Tryz.zeroValue275
 t76:=Tryz.underlying276
 a76:=Tryz.isAgg276
 z76:=Tryz.sizeOf276
 v76:=Tryz.zeroValue276
 t109:=Tryz.underlying278
 a109:=Tryz.isAgg278
 z109:=Tryz.sizeOf278
 v109:=Tryz.zeroValue278
 t127:=Tryz.underlying326
 a127:=Tryz.isAgg326
 z127:=Tryz.sizeOf326
 v127:=Tryz.zeroValue326
 t146:=Tryz.underlying328
 a146:=Tryz.isAgg328
 z146:=Tryz.sizeOf328
 v146:=Tryz.zeroValue328
 t148:=Tryz.underlying331
 a148:=Tryz.isAgg331
 z148:=Tryz.sizeOf331
 v148:=Tryz.zeroValue331
 t164:=Tryz.underlying353
 a164:=Tryz.isAgg353
 z164:=Tryz.sizeOf353
 v164:=Tryz.zeroValue353
theorem E5l:Builder.Extra Tryz.prog C6y where
 sizeBuilder:=by kernel_rfl
 liesBuilder:=by kernel_rfl
 t5:=C4e.t5
 a5:=C4e.a5
 z5:=C4e.z5
 v5:=C4e.v5
 infoByte:=by kernel_rfl
 cellsByte:=by kernel_rfl
 sizeByte:=by kernel_rfl
 neB5:=by decide
def B6k (s:List UInt8) (n:Int):List UInt8:=(List.replicate n.toNat s).flatten
theorem C9k (s:List UInt8):∀ n:Nat,Lib.repeatL s n=B6k s n
 | 0=>rfl
 | n+1=>by
  rw [Lib.repeatL,C9k s n]
  show s++(List.replicate n s).flatten=(List.replicate (n+1) s).flatten
  rw [List.replicate_succ,List.flatten_cons]
theorem C6q (s:List UInt8) (n:Int):(B6k s n).length=n.toNat * s.length:=by
 unfold B6k;simp
theorem E4x (s:List UInt8) (n:Int) (d:0≤n) (f:n≤140737488355328) (a:s.length * n.toNat≤140737488355328):J5 Tryz.prog 245 [sv s,iv n] [] (sv (B6k s n)):=by
 refine E3z ⟨by kernel_rfl⟩ fun w h _ _=>?_
 obtain ⟨c,rfl⟩:∃ c:Nat,n=c:=⟨n.toNat,by omega⟩
 have:=Any.strings_Repeat C4e E5l ⟨s.toArray⟩ c w opx (by show s.toArray.size * c≤_;simpa using a)
 refine this.mono ?_
 rintro e w' ⟨rfl,b⟩
 refine ⟨?_,b⟩
 show Ending.returned (.string ⟨(Lib.repeatL s c).toArray⟩)=_
 rw [C9k]
end Go.Proofs.YtfcdnnheppnbaaaGreatDoor
