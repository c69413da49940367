/- The facts that calls may use: the closed run of the chapter's examples; names of nodes. -/
import Derived.Test.YtbmkmaobejlkgaaDoorKTypes
import Derived.Test.YtbmkmaobejlkgaaDoorAxE
set_option linter.unusedSimpArgs false
set_option linter.unusedVariables false
namespace Go.KInst
open Go.Proofs Go.Ax
def Mf:List Fact:=[⟨6,[],.bool true⟩]
theorem no (g:Nat) (h:(Mf.all fun y=>!Nat.beq y.g g) = true):∀ y ∈ Mf,y.g ≠ g:=by
 intro y hy e
 have:=List.all_eq_true.1 h y hy
 rw [e] at this
 simp at this
theorem factsT:∀ y ∈ Mf,y.v = .bool true:=by
 intro y hy
 simp only [Mf,List.mem_cons,List.not_mem_nil,or_false] at hy
 rcases hy with rfl<;>rfl
theorem lives_sem:sem L.env Mf 6 [] [] = some (.bool true,[]):=sem_factT factsT (x:=⟨6,[],.bool true⟩) (by simp [Mf])
end Go.KInst
