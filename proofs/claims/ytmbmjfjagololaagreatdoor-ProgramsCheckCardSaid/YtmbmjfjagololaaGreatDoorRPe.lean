/- Part of a proof. No condition. -/
import Derived.Test.YtmbmjfjagololaaGreatDoorRPg
set_option linter.unusedSectionVars false
set_option linter.unusedSimpArgs false
set_option linter.unusedVariables false
namespace Go.RInst
open Go.Proofs Go.Ax Go.Pc
variable [PR]
set_option maxRecDepth 100000
def l4(c:Nat):UInt8:=if c=0 then 48 else if c=1 then 49 else if c=2 then 88 else 80
def l3(c:Nat):UInt8:=if c=0 then 76 else if c=1 then 72 else 88
theorem u8m2(i:Nat):IntKind.u8.wrap ((i%2:Nat):Int)=((i%2:Nat):Int):=by
 have h:i%2=0∨i%2=1:=by omega
 rcases h with h|h<;>rw[h]<;>decide
end Go.RInst
