/- Part of a proof. No condition. -/
import Derived.Test.YtgmenpackpnmaaaGreatDoorMNe
import Derived.Test.YtgmenpackpnmaaaGreatDoorPcB
import Derived.Test.YtgmenpackpnmaaaGreatDoorAxE
set_option linter.unusedSimpArgs false
set_option linter.unusedVariables false
namespace Go.MInst
open Go.Proofs Go.Ax Go.Pc
set_option maxRecDepth 100000
/- one fault in all lanes -/
theorem b2m (π:Nat → Option Nat) (k:Nat) (rows:List (List AV)):a0h π (.row k rows) = .row k (rows.map fun r=>r.map (ren π)):=by rfl
end Go.MInst
