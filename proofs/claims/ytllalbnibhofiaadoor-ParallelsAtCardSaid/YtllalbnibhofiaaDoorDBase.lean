/- The facts that calls may use: the closed run of the chapter's examples. -/
import Derived.Test.YtllalbnibhofiaaDoorDTypes
import Derived.Test.YtllalbnibhofiaaDoorAxD
namespace Go.DInst
open Go.Proofs Go.Ax
def Mf : List Fact := [⟨4, [], .bool true⟩]
theorem no (g : Nat) (h : (4 : Nat) ≠ g) : ∀ y ∈ Mf, y.g ≠ g := by
  intro y hy
  simp only [Mf, List.mem_singleton] at hy
  subst hy
  exact h
theorem lives_sem : sem L.env Mf 4 [] [] = some (.bool true, []) := sem_fact (x := ⟨4, [], .bool true⟩) rfl
end Go.DInst
