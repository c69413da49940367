/- Part of a proof. No condition. -/
import Derived.Test.YtlldffjabagdbaaGreatDoorTFl
import Derived.Test.YtlldffjabagdbaaGreatDoorPcB
set_option linter.unusedSimpArgs false
set_option linter.unusedVariables false
namespace Go.TInst
open Go.Proofs Go.Ax Go.Pc
set_option maxRecDepth 100000
structure OrdOf (c:Cir) (ord:List Nat):Prop where
 perm:ord.Perm (List.range c.nodes.length)
 topo:d9d c.nodes ord
 call:∀ (d:Bool) (H:a03),a0g L.env d (sem L.env Mf) (.func (.func 21) [] []) [.agg c.enc] H = some (.tuple [.islice (ord.map a0k) (some c.nodes.length),.int .i64 0],H,[])
theorem e1c (c:Cir) (h:c.wf):∃ ord,OrdOf c ord:=by obtain ⟨ord,h1,h2,h3⟩:=c5b c h;exact ⟨ord,h1,h2,h3⟩
theorem b4f {nodes:List Nd} {k i n:Nat} (h:(kinds nodes k)[i]? = some n):n < nodes.length ∧ a0c nodes n = k:=by
 have:=List.mem_of_getElem? h
 unfold kinds a3k at this
 rw [List.mem_filter] at this
 exact ⟨by simpa using this.1,by simpa using this.2⟩
end Go.TInst
