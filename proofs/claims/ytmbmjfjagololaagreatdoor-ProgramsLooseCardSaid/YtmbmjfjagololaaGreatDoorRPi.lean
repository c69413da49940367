/- Part of a proof. No condition. -/
import Derived.Test.YtmbmjfjagololaaGreatDoorRPh
import Derived.Test.YtmbmjfjagololaaGreatDoorRPg
import Derived.Test.YtmbmjfjagololaaGreatDoorRPe
import Derived.Test.YtmbmjfjagololaaGreatDoorRRd
set_option linter.unusedSectionVars false
set_option linter.unusedSimpArgs false
set_option linter.unusedVariables false
namespace Go.RInst
open Go.Proofs Go.Ax Go.Pc
variable [PR]
set_option maxRecDepth 100000
section
variable (rs rt rv:Option (Option Nat))(S:List Sg)(T:List Tm)(V:List Vc)(hS:S.length≤100)(hT:T.length≤100)(hV:V.length≤100)
include hS hT hV
variable (he:e4p S T V≠0)
include he
end
end Go.RInst
