/- Part of a proof. No condition. -/
import Derived.Test.YtmiegcjnimlbmaaGreatDoorUNe
import Derived.Test.YtmiegcjnimlbmaaGreatDoorPcB
set_option linter.unusedSimpArgs false
set_option linter.unusedVariables false
namespace Go.UInst
open Go.Proofs Go.Ax Go.Pc
set_option maxRecDepth 100000
structure OrdOf(c:Cir)(ord:List Nat):Prop where
 perm:ord.Perm (List.range c.nodes.length)
 topo:e4h c.nodes ord
 call:∀(d:Bool) (H:a03),a0a L.env d (sem L.env Mf) (.func (.func 58) [] []) [.agg c.enc] H=some (.tuple [.islice (ord.map a0f) (some c.nodes.length),.int .i64 0],H,[])
theorem e2o(c:Cir)(h:c.wf):∃ord,OrdOf c ord:=by obtain⟨ord,h1,h2,h3⟩:=c58 c h;exact⟨ord,h1,h2,h3⟩
theorem a6k{nodes:List Nd}{k i n:Nat}(h:(kinds nodes k)[i]?=some n):n<nodes.length∧a0t nodes n=k:=by have:=c11 h;unfold kinds a3g at this;rw[f3a]at this;exact⟨by simpa using this.1,by simpa using this.2⟩
end Go.UInst
