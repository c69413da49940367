/- Part of a proof. No condition. -/
import Derived.Test.YtllalbnibhofiaaGreatDoorZIo
import Derived.Test.YtllalbnibhofiaaGreatDoorZCa
set_option linter.unusedSimpArgs false
set_option linter.unusedVariables false
namespace Go.ZInst
open Go.Proofs Go.Ax Go.Pc
set_option maxRecDepth 100000
theorem d69 (x:CX):x.cir.outs ≠ []:=by
 show x.outN ≠ []
 unfold CX.outN
 simp
end Go.ZInst
