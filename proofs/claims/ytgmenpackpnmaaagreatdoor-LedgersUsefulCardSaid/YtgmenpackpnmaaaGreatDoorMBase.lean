/- The facts that calls may use: the closed run of the chapter's examples; names of nodes. -/
import Derived.Test.YtgmenpackpnmaaaGreatDoorMTypes
import Derived.Test.YtgmenpackpnmaaaGreatDoorAxE
set_option linter.unusedSimpArgs false
set_option linter.unusedVariables false
namespace Go.MInst
open Go.Proofs Go.Ax
def Mf:List Fact:=[⟨13,[],.bool true⟩,⟨171,[.str [110,48,48]],.bool true⟩,⟨171,[.str [110,48,49]],.bool true⟩,⟨171,[.str [110,48,50]],.bool true⟩,⟨171,[.str [110,48,51]],.bool true⟩,⟨171,[.str [110,48,52]],.bool true⟩,⟨171,[.str [110,48,53]],.bool true⟩,⟨171,[.str [110,48,54]],.bool true⟩,⟨171,[.str [110,48,55]],.bool true⟩,⟨171,[.str [110,48,56]],.bool true⟩,⟨171,[.str [110,48,57]],.bool true⟩,⟨171,[.str [110,49,48]],.bool true⟩,⟨171,[.str [110,49,49]],.bool true⟩,⟨171,[.str [110,49,50]],.bool true⟩,⟨171,[.str [110,49,51]],.bool true⟩]
theorem no (g:Nat) (h:(Mf.all fun y=>!Nat.beq y.g g) = true):∀ y ∈ Mf,y.g ≠ g:=by
 intro y hy e
 have:=List.all_eq_true.1 h y hy
 rw [e] at this
 simp at this
theorem a5r:∀ y ∈ Mf,y.v = .bool true:=by
 intro y hy
 simp only [Mf,List.mem_cons,List.not_mem_nil,or_false] at hy
 rcases hy with rfl|rfl|rfl|rfl|rfl|rfl|rfl|rfl|rfl|rfl|rfl|rfl|rfl|rfl|rfl<;>rfl
theorem c6u:sem L.env Mf 13 [] [] = some (.bool true,[]):=a20 a5r (x:=⟨13,[],.bool true⟩) (by simp [Mf])
theorem d1q:sem L.env Mf 171 [.str [110,48,48]] [] = some (.bool true,[]):=a20 a5r (x:=⟨171,[.str [110,48,48]],.bool true⟩) (by simp [Mf])
theorem d1p:sem L.env Mf 171 [.str [110,48,49]] [] = some (.bool true,[]):=a20 a5r (x:=⟨171,[.str [110,48,49]],.bool true⟩) (by simp [Mf])
theorem d1o:sem L.env Mf 171 [.str [110,48,50]] [] = some (.bool true,[]):=a20 a5r (x:=⟨171,[.str [110,48,50]],.bool true⟩) (by simp [Mf])
theorem d1n:sem L.env Mf 171 [.str [110,48,51]] [] = some (.bool true,[]):=a20 a5r (x:=⟨171,[.str [110,48,51]],.bool true⟩) (by simp [Mf])
theorem d1m:sem L.env Mf 171 [.str [110,48,52]] [] = some (.bool true,[]):=a20 a5r (x:=⟨171,[.str [110,48,52]],.bool true⟩) (by simp [Mf])
theorem d1l:sem L.env Mf 171 [.str [110,48,53]] [] = some (.bool true,[]):=a20 a5r (x:=⟨171,[.str [110,48,53]],.bool true⟩) (by simp [Mf])
theorem d1k:sem L.env Mf 171 [.str [110,48,54]] [] = some (.bool true,[]):=a20 a5r (x:=⟨171,[.str [110,48,54]],.bool true⟩) (by simp [Mf])
theorem d1j:sem L.env Mf 171 [.str [110,48,55]] [] = some (.bool true,[]):=a20 a5r (x:=⟨171,[.str [110,48,55]],.bool true⟩) (by simp [Mf])
theorem d1i:sem L.env Mf 171 [.str [110,48,56]] [] = some (.bool true,[]):=a20 a5r (x:=⟨171,[.str [110,48,56]],.bool true⟩) (by simp [Mf])
theorem d1h:sem L.env Mf 171 [.str [110,48,57]] [] = some (.bool true,[]):=a20 a5r (x:=⟨171,[.str [110,48,57]],.bool true⟩) (by simp [Mf])
theorem c79:sem L.env Mf 171 [.str [110,49,48]] [] = some (.bool true,[]):=a20 a5r (x:=⟨171,[.str [110,49,48]],.bool true⟩) (by simp [Mf])
theorem c78:sem L.env Mf 171 [.str [110,49,49]] [] = some (.bool true,[]):=a20 a5r (x:=⟨171,[.str [110,49,49]],.bool true⟩) (by simp [Mf])
theorem c77:sem L.env Mf 171 [.str [110,49,50]] [] = some (.bool true,[]):=a20 a5r (x:=⟨171,[.str [110,49,50]],.bool true⟩) (by simp [Mf])
theorem c76:sem L.env Mf 171 [.str [110,49,51]] [] = some (.bool true,[]):=a20 a5r (x:=⟨171,[.str [110,49,51]],.bool true⟩) (by simp [Mf])
end Go.MInst
