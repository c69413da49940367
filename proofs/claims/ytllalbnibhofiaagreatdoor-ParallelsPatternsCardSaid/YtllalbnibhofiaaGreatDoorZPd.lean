/- Part of a proof. No condition. -/
import Derived.Test.YtllalbnibhofiaaGreatDoorZPc
import Derived.Test.YtllalbnibhofiaaGreatDoorAxF
set_option linter.unusedSimpArgs false
set_option linter.unusedVariables false
namespace Go.ZInst
open Go.Proofs Go.Ax Go.Pc
set_option maxRecDepth 100000
open Go.Proofs Go.Ax Go.Pc
set_option maxRecDepth 100000
open Go.Proofs Go.Ax Go.Pc
set_option maxRecDepth 100000
section
variable {E9:List AV} {FV GV:AV} {H H1:aa4} {eb fb gb rb nc nb pc pb:Nat} {nids pids:Nat → Nat} {esN:List (Nat × List Nat)} {esP:List ((Nat × Nat) × List Nat)}
end
open Go.Proofs Go.Ax Go.Pc
set_option maxRecDepth 100000
end Go.ZInst
