/- Part of a proof. No condition. -/
import Derived.Test.YtmiegcjnimlbmaaGreatDoorUNe
import Derived.Test.YtmiegcjnimlbmaaGreatDoorPcB
set_option linter.unusedSectionVars false
set_option linter.unusedSimpArgs false
set_option linter.unusedVariables false
namespace Go.UInst
open Go.Proofs Go.Ax Go.Pc
variable [ZC]
set_option maxRecDepth 100000
structure OrdOf(c:Cir)(ord:List Nat):Prop where
 perm:ord.Perm (List.range c.nodes.length)
 topo:e80 c.nodes ord
 call:∀(d:Bool) (H:a03),cl d 58 [.agg c.enc] H=some (.tuple [.islice (ord.map a13) (some c.nodes.length),.int .i64 0],H,[])
theorem d1f(c:Cir)(h:c.wf):∃ord,OrdOf c ord:=by obtain⟨ord,h1,h2,h3⟩:=c80 c h;exact⟨ord,h1,h2,h3⟩
theorem a7d{nodes:List Nd}{k i n:Nat}(h:(kinds nodes k)[i]?=some n):n<nodes.length∧a0u nodes n=k:=by have:=c11 h;unfold kinds a40 at this;rw[f8x]at this;exact⟨by simpa using this.1,by simpa using this.2⟩
end Go.UInst
