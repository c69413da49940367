/- Part of a proof. No condition. -/
import Derived.Test.YtbmkmaobejlkgaaGreatDoorQNe
import Derived.Test.YtbmkmaobejlkgaaGreatDoorPcB
set_option linter.unusedSimpArgs false
set_option linter.unusedVariables false
namespace Go.QInst
open Go.Proofs Go.Ax Go.Pc
set_option maxRecDepth 100000
structure OrdOf(c:Cir)(ord:List Nat):Prop where
 perm:ord.Perm (List.range c.nodes.length)
 topo:e3l c.nodes ord
 call:∀(d:Bool) (H:a02),a09 L.env d (sem L.env Mf) (.func (.func 119) [] []) [.agg c.enc] H=some (.tuple [.islice (ord.map a0d) (some c.nodes.length),.int .i64 0],H,[])
theorem e4n(c:Cir)(h:c.wf):∃ord,OrdOf c ord:=by obtain⟨ord,h1,h2,h3⟩:=c62 c h;exact⟨ord,h1,h2,h3⟩
theorem a6o{nodes:List Nd}{k i n:Nat}(h:(kinds nodes k)[i]?=some n):n<nodes.length∧a0l nodes n=k:=by have:=c10 h;unfold kinds a3b at this;rw[f4p]at this;exact⟨by simpa using this.1,by simpa using this.2⟩
def b4z(c:Cir)(ord:List Nat):Sim:=⟨c.nodes,ord,kinds c.nodes 0,kinds c.nodes 14,c.outs⟩
end Go.QInst
