/- Part of a proof. No condition. -/
import Derived.Test.YtgmenpackpnmaaaGreatDoorMGa
import Derived.Test.YtgmenpackpnmaaaGreatDoorPcB
import Derived.Test.YtgmenpackpnmaaaGreatDoorAxE
set_option linter.unusedSimpArgs false
set_option linter.unusedVariables false
namespace Go.MInst
open Go.Proofs Go.Ax Go.Pc
set_option maxRecDepth 100000
/- the drivers of a bus -/
/- dependence, by the statements -/
/- the statements' own check of a bridge -/
/- patterns that fit -/
end Go.MInst
