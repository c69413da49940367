/- The facts that calls may use: the closed run of the chapter's examples. -/
import Derived.Test.YtllalbnibhofiaaGreatDoorZTypes
import Derived.Test.YtllalbnibhofiaaGreatDoorAxD
namespace Go.ZInst
open Go.Proofs Go.Ax
def Mf : List Fact := [⟨12, [], .bool true⟩]
theorem no (g : Nat) (h : (12 : Nat) ≠ g) : ∀ y ∈ Mf, y.g ≠ g := by
  intro y hy
  simp only [Mf, List.mem_singleton] at hy
  subst hy
  exact h
theorem lives_sem : sem L.env Mf 12 [] [] = some (.bool true, []) := sem_fact (x := ⟨12, [], .bool true⟩) rfl
end Go.ZInst
