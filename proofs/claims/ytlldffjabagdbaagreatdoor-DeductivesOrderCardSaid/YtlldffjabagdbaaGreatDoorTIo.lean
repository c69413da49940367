/- Part of a proof. No condition. -/
import Derived.Test.YtlldffjabagdbaaGreatDoorTIn
set_option linter.unusedSimpArgs false
set_option linter.unusedVariables false
namespace Go.TInst
open Go.Proofs Go.Ax Go.Pc
set_option maxRecDepth 100000
end Go.TInst
