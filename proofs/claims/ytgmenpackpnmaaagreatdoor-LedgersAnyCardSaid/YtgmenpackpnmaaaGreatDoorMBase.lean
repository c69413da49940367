/- The facts that calls may use: the closed run of the chapter's examples; names of nodes. -/
import Derived.Test.YtgmenpackpnmaaaGreatDoorMTypes
import Derived.Test.YtgmenpackpnmaaaGreatDoorAxE
set_option linter.unusedSimpArgs false
set_option linter.unusedVariables false
namespace Go.MInst
open Go.Proofs Go.Ax
def Mf:List Fact:=[⟨13,[],.bool true⟩,⟨171,[.str [110,48,48]],.bool true⟩,⟨171,[.str [110,48,49]],.bool true⟩,⟨171,[.str [110,48,50]],.bool true⟩,⟨171,[.str [110,48,51]],.bool true⟩,⟨171,[.str [110,48,52]],.bool true⟩,⟨171,[.str [110,48,53]],.bool true⟩,⟨171,[.str [110,48,54]],.bool true⟩,⟨171,[.str [110,48,55]],.bool true⟩,⟨171,[.str [110,48,56]],.bool true⟩,⟨171,[.str [110,48,57]],.bool true⟩,⟨171,[.str [110,49,48]],.bool true⟩,⟨171,[.str [110,49,49]],.bool true⟩,⟨171,[.str [110,49,50]],.bool true⟩,⟨171,[.str [110,49,51]],.bool true⟩]
theorem no (g:Nat) (h:(Mf.all fun y=>!Nat.beq y.g g) = true):∀ y ∈ Mf,y.g ≠ g:=by
 intro y hy e
 have:=List.all_eq_true.1 h y hy
 rw [e] at this
 simp at this
theorem c2b:∀ y ∈ Mf,y.v = .bool true:=by
 intro y hy
 simp only [Mf,List.mem_cons,List.not_mem_nil,or_false] at hy
 rcases hy with rfl|rfl|rfl|rfl|rfl|rfl|rfl|rfl|rfl|rfl|rfl|rfl|rfl|rfl|rfl<;>rfl
theorem b3z:sem L.env Mf 13 [] [] = some (.bool true,[]):=b3h c2b (x:=⟨13,[],.bool true⟩) (by simp [Mf])
end Go.MInst
