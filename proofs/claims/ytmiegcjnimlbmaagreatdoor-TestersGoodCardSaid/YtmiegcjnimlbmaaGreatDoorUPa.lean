/- Part of a proof. No condition. -/
import Derived.Test.YtmiegcjnimlbmaaGreatDoorUNe
import Derived.Test.YtmiegcjnimlbmaaGreatDoorPcB
set_option linter.unusedSimpArgs false
set_option linter.unusedVariables false
namespace Go.UInst
open Go.Proofs Go.Ax Go.Pc
set_option maxRecDepth 100000
structure OrdOf(c:Cir)(ord:List Nat):Prop where
 perm:ord.Perm (List.range c.nodes.length)
 topo:e1u c.nodes ord
 call:∀(d:Bool) (H:a02),a09 L.env d (sem L.env Mf) (.func (.func 58) [] []) [.agg c.enc] H=some (.tuple [.islice (ord.map a0s) (some c.nodes.length),.int .i64 0],H,[])
theorem e04(c:Cir)(h:c.wf):∃ord,OrdOf c ord:=by obtain⟨ord,h1,h2,h3⟩:=c3m c h;exact⟨ord,h1,h2,h3⟩
theorem b2i{nodes:List Nd}{k i n:Nat}(h:(kinds nodes k)[i]?=some n):n<nodes.length∧a0y nodes n=k:=by have:=e12 h;unfold kinds a2z at this;rw[e9u]at this;exact⟨by simpa using this.1,by simpa using this.2⟩
end Go.UInst
