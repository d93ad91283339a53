import Derived.Test.YthcjfkljekdioaaGreatDoorMB4
set_option linter.unusedVariables false
set_option linter.unusedSimpArgs false
namespace Go.Proofs.YthcjfkljekdioaaGreatDoor
open Go Go.Fen
theorem C2e:A3j=true:=by decide +kernel
end Go.Proofs.YthcjfkljekdioaaGreatDoor
set_option linter.unusedVariables false
set_option linter.unusedSimpArgs false
namespace Go.Proofs.YthcjfkljekdioaaGreatDoor
open Go Go.Fen
structure FOk (f:FrmC) (rows:List (List Cel)):Prop where
 hc:2≤f.cols∧f.cols≤80
 hr:1≤(rows.length:Int)∧(rows.length:Int)≤40
 h1:0≤f.cursor.row∧f.cursor.row<(rows.length:Int)
 h2:0≤f.cursor.col∧f.cursor.col<f.cols
 sh:0≤f.shape∧f.shape≤6
 ti:K8 0 0 Col.zero f.title=0
 ro:∀ r ∈ rows,(r.length:Int)=f.cols∧J3 r false=0
theorem B0j (f:FrmC):∀ (rows:List (List Cel)) (ok:Bool) (t:Nat),I6 f rows ok t=0∨I6 f rows ok t=330
 | [],ok,t=>by cases ok<;>simp [I6]
 | r::rows,ok,t=>by
  simp only [I6]
  generalize ((ok&&decide ((r.length:Int)=f.cols))&&decide (J3 r false=0))=b
  cases b with
  | false=>right;rfl
  | true=>exact B0j f rows true (t+1)
theorem C4q {f:FrmC} {rows:List (List Cel)} (h:E7 f rows≠0):E7 f rows=330:=(B0j f rows _ 0).resolve_left h
theorem C9i (b:List Cel):∀ (l:List Cel) (i:Nat),l=b.drop i→D7 b l i=true
 | [],i,h=>rfl
 | a::l,i,h=>by
  have hi:i<b.length:=by
   rcases Nat.lt_or_ge i b.length with h1 | h1
   ·exact h1
   ·rw [List.drop_of_length_le h1] at h;cases h
  rw [List.drop_eq_getElem_cons hi] at h
  obtain ⟨rfl,h2⟩:=List.cons.inj h
  simp only [D7]
  rw [C9i b l (i+1) h2]
  simp [List.getD_eq_getElem?_getD,hi]
theorem C5h (b:List (List Cel)):∀ (l:List (List Cel)) (i:Nat),l=b.drop i→B6 b l i=true
 | [],i,h=>rfl
 | a::l,i,h=>by
  have hi:i<b.length:=by
   rcases Nat.lt_or_ge i b.length with h1 | h1
   ·exact h1
   ·rw [List.drop_of_length_le h1] at h;cases h
  rw [List.drop_eq_getElem_cons hi] at h
  obtain ⟨rfl,h2⟩:=List.cons.inj h
  simp only [B6]
  rw [C5h b l (i+1) h2]
  unfold G8
  rw [show b.getD i []=b[i] by simp [List.getD_eq_getElem?_getD,hi],C9i b[i] b[i] 0 rfl];simp
theorem C4e (f:FrmC) (r:List (List Cel)):J7 f r f r=true:=by
 unfold J7 C3
 rw [C5h r r 0 rfl];simp
end Go.Proofs.YthcjfkljekdioaaGreatDoor
