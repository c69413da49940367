/- Part of a proof. No condition. -/
import Derived.Test.YtlldffjabagdbaaGreatDoorTIn
set_option linter.unusedSimpArgs false
set_option linter.unusedVariables false
namespace Go.TInst
open Go.Proofs Go.Ax Go.Pc
set_option maxRecDepth 100000
theorem c8g {nodes:List Nd} {k n:Nat}:n ∈ kinds nodes k ↔ n < nodes.length ∧ a0a nodes n = k:=by
 unfold kinds a37
 rw [List.mem_filter]
 simp
end Go.TInst
