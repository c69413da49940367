/- Part of a proof. No condition. -/
import Derived.Test.YtbmkmaobejlkgaaDoorKBase
import Derived.Test.YtbmkmaobejlkgaaDoorAxF
import Derived.Test.YtbmkmaobejlkgaaDoorPcP
set_option linter.unusedSimpArgs false
set_option linter.unusedVariables false
namespace Go.KInst
open Go.Proofs Go.Ax Go.Pc Go.Sort
set_option maxRecDepth 100000
end Go.KInst
