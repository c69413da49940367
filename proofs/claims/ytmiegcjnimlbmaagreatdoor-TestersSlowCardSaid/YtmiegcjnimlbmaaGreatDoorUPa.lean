/- Part of a proof. No condition. -/
import Derived.Test.YtmiegcjnimlbmaaGreatDoorUNe
import Derived.Test.YtmiegcjnimlbmaaGreatDoorPcB
set_option linter.unusedSimpArgs false
set_option linter.unusedVariables false
namespace Go.UInst
open Go.Proofs Go.Ax Go.Pc
set_option maxRecDepth 100000
structure OrdOf(c:Cir)(ord:List Nat):Prop where
 perm:ord.Perm (List.range c.nodes.length)
 topo:e4q c.nodes ord
 call:∀(d:Bool) (H:a02),a0a L.env d (sem L.env Mf) (.func (.func 58) [] []) [.agg c.enc] H=some (.tuple [.islice (ord.map a0h) (some c.nodes.length),.int .i64 0],H,[])
theorem e2z(c:Cir)(h:c.wf):∃ord,OrdOf c ord:=by obtain⟨ord,h1,h2,h3⟩:=c5a c h;exact⟨ord,h1,h2,h3⟩
theorem a6p{nodes:List Nd}{k i n:Nat}(h:(kinds nodes k)[i]?=some n):n<nodes.length∧a0x nodes n=k:=by have:=List.mem_of_getElem? h;unfold kinds a3g at this;rw[List.mem_filter]at this;exact⟨by simpa using this.1,by simpa using this.2⟩
end Go.UInst
