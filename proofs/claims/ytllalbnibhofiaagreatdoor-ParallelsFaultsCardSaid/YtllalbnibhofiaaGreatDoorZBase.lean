/- The facts that calls may use: the closed run of the chapter's examples; names of nodes. -/
import Derived.Test.YtllalbnibhofiaaGreatDoorZTypes
import Derived.Test.YtllalbnibhofiaaGreatDoorAxE
set_option linter.unusedSimpArgs false
set_option linter.unusedVariables false
namespace Go.ZInst
open Go.Proofs Go.Ax
def Mf:List Fact:=[⟨12,[],.bool true⟩,⟨136,[.str [110,48,48]],.bool true⟩,⟨136,[.str [110,48,49]],.bool true⟩,⟨136,[.str [110,48,50]],.bool true⟩,⟨136,[.str [110,48,51]],.bool true⟩,⟨136,[.str [110,48,52]],.bool true⟩,⟨136,[.str [110,48,53]],.bool true⟩,⟨136,[.str [110,48,54]],.bool true⟩,⟨136,[.str [110,48,55]],.bool true⟩,⟨136,[.str [110,48,56]],.bool true⟩,⟨136,[.str [110,48,57]],.bool true⟩,⟨136,[.str [110,49,48]],.bool true⟩,⟨136,[.str [110,49,49]],.bool true⟩,⟨136,[.str [110,49,50]],.bool true⟩,⟨136,[.str [110,49,51]],.bool true⟩]
theorem no (g:Nat) (h:(Mf.all fun y=>!Nat.beq y.g g) = true):∀ y ∈ Mf,y.g ≠ g:=by
 intro y hy e
 have:=List.all_eq_true.1 h y hy
 rw [e] at this
 simp at this
theorem a6c:∀ y ∈ Mf,y.v = .bool true:=by
 intro y hy
 simp only [Mf,List.mem_cons,List.not_mem_nil,or_false] at hy
 rcases hy with rfl|rfl|rfl|rfl|rfl|rfl|rfl|rfl|rfl|rfl|rfl|rfl|rfl|rfl|rfl<;>rfl
theorem c7e:f7x L.env Mf 12 [] [] = some (.bool true,[]):=a24 a6c (x:=⟨12,[],.bool true⟩) (by simp [Mf])
theorem d29:f7x L.env Mf 136 [.str [110,48,48]] [] = some (.bool true,[]):=a24 a6c (x:=⟨136,[.str [110,48,48]],.bool true⟩) (by simp [Mf])
theorem d28:f7x L.env Mf 136 [.str [110,48,49]] [] = some (.bool true,[]):=a24 a6c (x:=⟨136,[.str [110,48,49]],.bool true⟩) (by simp [Mf])
theorem d27:f7x L.env Mf 136 [.str [110,48,50]] [] = some (.bool true,[]):=a24 a6c (x:=⟨136,[.str [110,48,50]],.bool true⟩) (by simp [Mf])
theorem d26:f7x L.env Mf 136 [.str [110,48,51]] [] = some (.bool true,[]):=a24 a6c (x:=⟨136,[.str [110,48,51]],.bool true⟩) (by simp [Mf])
theorem d25:f7x L.env Mf 136 [.str [110,48,52]] [] = some (.bool true,[]):=a24 a6c (x:=⟨136,[.str [110,48,52]],.bool true⟩) (by simp [Mf])
theorem d24:f7x L.env Mf 136 [.str [110,48,53]] [] = some (.bool true,[]):=a24 a6c (x:=⟨136,[.str [110,48,53]],.bool true⟩) (by simp [Mf])
theorem d23:f7x L.env Mf 136 [.str [110,48,54]] [] = some (.bool true,[]):=a24 a6c (x:=⟨136,[.str [110,48,54]],.bool true⟩) (by simp [Mf])
theorem d22:f7x L.env Mf 136 [.str [110,48,55]] [] = some (.bool true,[]):=a24 a6c (x:=⟨136,[.str [110,48,55]],.bool true⟩) (by simp [Mf])
theorem d21:f7x L.env Mf 136 [.str [110,48,56]] [] = some (.bool true,[]):=a24 a6c (x:=⟨136,[.str [110,48,56]],.bool true⟩) (by simp [Mf])
theorem d20:f7x L.env Mf 136 [.str [110,48,57]] [] = some (.bool true,[]):=a24 a6c (x:=⟨136,[.str [110,48,57]],.bool true⟩) (by simp [Mf])
theorem c7v:f7x L.env Mf 136 [.str [110,49,48]] [] = some (.bool true,[]):=a24 a6c (x:=⟨136,[.str [110,49,48]],.bool true⟩) (by simp [Mf])
theorem c7u:f7x L.env Mf 136 [.str [110,49,49]] [] = some (.bool true,[]):=a24 a6c (x:=⟨136,[.str [110,49,49]],.bool true⟩) (by simp [Mf])
theorem c7t:f7x L.env Mf 136 [.str [110,49,50]] [] = some (.bool true,[]):=a24 a6c (x:=⟨136,[.str [110,49,50]],.bool true⟩) (by simp [Mf])
theorem c7s:f7x L.env Mf 136 [.str [110,49,51]] [] = some (.bool true,[]):=a24 a6c (x:=⟨136,[.str [110,49,51]],.bool true⟩) (by simp [Mf])
end Go.ZInst
